/- PassesBlocks holds of all cores and names (no condition): a part of the proof: an abstract interpreter of the code that is proved sound, models of the functions, and laws of these models. -/
import Derived.Test.YtcdinjhcnhepeaaGreatDoorB00
import Derived.MapKept
import Derived.Laws.StructEq
import Derived.Lib.SliceRun
import Derived.Laws.Cover3
import Derived.TacticsIn
import Derived.OrdersIn
import Derived.Orders
import Derived.Stop.Looks
import Derived.Deep.LoopGhost
set_option linter.unusedVariables false
set_option linter.unusedSimpArgs false
set_option linter.unusedSectionVars false
namespace Ab
open Go
variable{P:Program}{L:nK}{E0 E E':Env}{w0 w w':World}{s:St}{a:Act}{p:Path}{C:dx}
def cf(w w':World):Prop:= ∀b,b<w.heap.size→w'.heap[b]? =w.heap[b]?
theorem cf.refl(w:World):cf w w:=fun _ _=>rfl
theorem cf.get{b:Nat}{x:Obj}(h:cf w w')(hb:w.heap[b]? =some x):w'.heap[b]? =some x:=by
 rw[h b (Array.getElem?_eq_some_iff.1 hb).1];exact hb
theorem cf.trans{w1 w2 w3:World}(h:cf w1 w2)(k:cf w2 w3):cf w1 w3:=fun b hb=>by
 have h1:w1.heap[b]? =some w1.heap[b]:=Array.getElem?_eq_getElem hb
 rw[h1,k.get (h.get h1)]
structure xy(E:Env)(w:World)(g:Nat→Option Ob)(nx:Nat):Prop where
 heap:w.heap=E.h
 wf:Wf E
 nl: ∀k,k.loc=true→ ¬E.live k
 gl: ∀i,E.live (.o i)↔i<nx
 own: ∀b,(E.own b).loc=false
 gk:GOk g
 gx: ∀i ob,g i=some ob→bM E (.o i) ob
 ng: ∀b,¬du (E.own b)
def lA(P:Program)(f:Nat)(args:List AV)(g:Nat→Option Ob)(nx:Nat)(r:AV)(g':Nat→Option Ob)(iP:Nat):Prop:=
 cr args=true→ ∀(E:Env) (w:World) (vs:List Value),xy E w g nx→vs.length=args.length→(∀(q:Nat) (a:AV) (y:Value),args[q]? =some a→vs[q]? =some y→Cz E a y)→
  Calls P f vs.toArray w fun e w'=> ∃x E',e= .returned x∧xy E' w' g' iP∧Ext du E E'∧jk w w'∧Cz E' r x∧bX r=true∧cf w w'
structure Tr(E E':Env):Prop where
 h:E'.h=E.h
 aI: ∀b o,E'.aI b o↔E.aI b o
 dN: ∀b,E'.dN b=E.dN b
 live: ∀i,E.live (.o i)→E'.live (.o i)∧E'.m (.o i)=E.m (.o i)∧E'.len (.o i)=E.len (.o i)
 tok: ∀b t,t.loc=false→E.own b= .tok t→E'.own b= .tok t
 key: ∀b i,E.own b= .key (.o i)→E'.own b= .key (.o i)
theorem Tr.bX(k:Tr E E'){av:AV}{x:Value}(h:Cz E av x):bX av=true→Cz E' av x:=by
 induction h with
 |any x=>exact fun _=> .any _
 |v x=>exact fun _=> .v _
 |mq r A c=>exact fun _=> .mq _ _ _
 |sl r xs z b o c u hp hc hm dw hz hr hi er hu hq ih=>
  exact fun _=> .sl r xs z b o c u hp hc hm dw hz ((k.dN b).trans hr) hi (fun q a dc=>(k.aI _ _).2 (er q a dc)) (fun q a dc=>by rw[k.h];exact hu q a dc) (fun q a dc=>ih q a dc (hi q a dc))
 |rH r t=>exact fun _=> .rH _ _
 |gs r t xs=>intro hi;simp[Ab.bX]at hi
 |aR r cs off b o u hr hi er hu hq ih=>
  exact fun _=> .aR r cs off b o u (fun q a dc=>(k.dN b).trans (hr q a dc)) hi (fun q a dc=>(k.aI _ _).2 (er q a dc)) (fun q a dc=>by rw[k.h];exact hu q a dc) (fun q a dc=>ih q a dc (hi q a dc))
 |ptr q off hl=>
  intro hi;cases q with
  |s e=>simp[Ab.bX,Key.loc]at hi
  |r e j=>simp[Ab.bX,Key.loc]at hi
  |o i=>obtain⟨h1,h2,_⟩:=k.live i hl;rw[←h2];exact .ptr _ _ h1
 |eW q n hl hn hc hm=>
  intro hi;cases q with
  |s e=>simp[Ab.bX,Key.loc]at hi
  |r e j=>simp[Ab.bX,Key.loc]at hi
  |o i=>obtain⟨h1,h2,h3⟩:=k.live i hl;rw[←h2,←h3];exact .eW _ _ h1 (by rw[h3];exact hn) (by rw[h3];exact hc) (by rw[h3];exact hm)
 |ca q i off z hl=>
  intro hi;cases q with
  |s e=>simp[Ab.bX,Key.loc]at hi
  |r e j=>simp[Ab.bX,Key.loc]at hi
  |o i=>obtain⟨h1,h2,_⟩:=k.live i hl;rw[←h2];exact .ca _ _ _ _ h1
 |mp q hl=>
  intro hi;cases q with
  |s e=>simp[Ab.bX,Key.loc]at hi
  |r e j=>simp[Ab.bX,Key.loc]at hi
  |o i=>obtain⟨h1,h2,_⟩:=k.live i hl;rw[←h2];exact .mp _ h1
 |nM q hl=>
  intro hi;cases q with
  |s e=>simp[Ab.bX,Key.loc]at hi
  |r e j=>simp[Ab.bX,Key.loc]at hi
  |o i=>obtain⟨h1,h2,_⟩:=k.live i hl;rw[←h2];exact .nM _ h1
 |ar n z xs ys hn hz hl hi hq ih=>exact fun _=> .ar n z xs ys hn hz hl hi fun q a y ha hy=>ih q a y ha hy (hi q a ha)
 |bm f cs ys hl hi hq ih=>exact fun _=> .bm f cs ys hl hi fun q a y ha hy=>ih q a y ha hy (hi q a ha)
 |lB r z xs x hz h ih=>exact fun _=> .lB r z xs x hz (ih rfl)
 |fn f cap ys hl hq ih=>intro hi;exact .fn f cap ys hl fun q a y ha hy=>ih q a y ha hy (bf (by simpa[Ab.bX]using hi) q a ha)
 |agg cs ys hl hq ih=>intro hi;exact .agg cs ys hl fun q a y ha hy=>ih q a y ha hy (bf (by simpa[Ab.bX]using hi) q a ha)
 |gw cs ys hl hq ih=>intro hi;exact .gw cs ys hl fun q a y ha hy=>ih q a y ha hy (bf (by simpa[Ab.bX]using hi) q a ha)
theorem Tr.gs(k:Tr E E'){r:Nat}{t:Tok}{xs:List (List AV)}{x:Value}(ht:t.loc=false)(h:Cz E (.gs r t xs) x):Cz E' (.gs r t xs) x:=by
 cases h with
 |rH=>exact .rH _ _
 |gs _ _ _ z b c e cells u hc hm h0 dw hz hr hb dg ho er hi hu hq=>
  exact .gs r t xs z b c e cells u hc hm h0 dw hz ((k.dN b).trans hr) (by rw[k.h];exact hb) dg (k.tok b t ht ho) (fun o=>(k.aI b o).trans (er o)) hi (fun q a dc=>by rw[k.h];exact hu q a dc) (fun q a dc=>k.bX (hq q a dc) (hi q a dc))
theorem Tr.ob(k:Tr E E'){i:Nat}{ob:Ob}(hg:match ob with
   | .box cs=> ∀(q:Nat) (a:AV),cs[q]? =some a→Ab.bX a=true
   | .arr _ _=>True
   | .ow .. =>False
   | .lp .. =>False)(h:bM E (.o i) ob):bM E' (.o i) ob:=by
 cases ob with
 |box cs=>
  obtain⟨hl,c,e,hb,ho,hs,dg,hq⟩:=h;obtain⟨l1,l2,l3⟩:=k.live i hl;refine⟨l1,c,e,by rw[l2,k.h];exact hb,by rw[l2];exact k.key _ i ho,fun o hh=>hs o ((k.aI _ _).1 (by rw[l2]at hh;exact hh)),dg,fun q a x ha hx=>?_⟩;exact k.bX (hq q a x ha hx) (hg q a ha)
 |arr z xs=>
  obtain⟨hl,nQ,dw,hz,hm,c,e,hb,ho,hs,dg,hi,hq⟩:=h;obtain⟨l1,l2,l3⟩:=k.live i hl;exact⟨l1,l3.trans nQ,dw,hz,hm,c,e,by rw[l2,k.h];exact hb,by rw[l2];exact k.key _ i ho,fun o hh=>hs o ((k.aI _ _).1 (by rw[l2]at hh;exact hh)),dg,hi,fun q a x ha hx=>k.bX (hq q a x ha hx) (hi q a ha)⟩
 |ow=>exact hg.elim
 |lp=>exact hg.elim
def Env.mask(E:Env):Env:=
 {E with live:=fun k=>k.loc=false∧E.live k,own:=fun b=>if(E.own b).loc then .kM else E.own b}
theorem AH(E:Env):Tr E E.mask:=
 ⟨rfl,fun _ _=>Iff.rfl,fun _=>rfl,fun i h=>⟨⟨rfl,h⟩,rfl,rfl⟩,
  fun b t ht ho=>by simp only[Env.mask];rw[ho];simp[Own.loc,ht],fun b i ho=>by simp only[Env.mask];rw[ho];simp[Own.loc,Key.loc]⟩
theorem bq.mask(h:bq E0 E w0 w s a):xy E.mask w s.g s.nx where
 heap:=h.heap
 wf:=⟨h.wf.aI,fun b hb=>h.wf.own b (fun e=>hb (by simp only[Env.mask];rw[e];simp[Own.loc])),h.wf.fz⟩
 nl:=fun k hk hd=>by have:=hd.1;rw[hk]at this;cases this
 gl:=fun i=>⟨fun hh=>(h.gl i).1 hh.2,fun hh=>⟨rfl,(h.gl i).2 hh⟩⟩
 own:=fun b=>by
  simp only[Env.mask]
  split
  ·rfl
  ·rename_i hh;simpa using hh
 gk:=h.gk
 gx:=fun i ob hi=>(AH E).ob (h.gk i ob hi) (h.gx i ob hi)
 ng:=fun b=>by
  have:=h.ng b
  simp only[Env.mask]
  split
  ·simp[du,Own.du]
  ·exact this
def Env.back(E E':Env):Env:=
 {E' with
  m:=fun k=>if k.loc then E.m k else E'.m k
  len:=fun k=>if k.loc then E.len k else E'.len k
  live:=fun k=>if k.loc then E.live k else E'.live k
  own:=fun b=>if b<E.h.size∧(E.own b).loc=true then E.own b else E'.own b}
theorem Ez{g':Nat→Option Ob}{iP:Nat}(hE:Ext du E.mask E')(hG:xy E' w' g' iP):Tr E' (E.back E'):=by
 have key: ∀b,b<E.h.size→(E.own b).loc=true→E'.own b= .kM:=fun b hb ho=>by
  have:=(hE.bw b hb (by simp only[Env.mask];rw[if_pos ho];simp[du,Own.du])).1
  rw[this];simp only[Env.mask];rw[if_pos ho]
 refine⟨rfl,fun _ _=>Iff.rfl,fun _=>rfl,fun i hi=>⟨by simpa[Env.back,Key.loc]using hi,by simp[Env.back,Key.loc],by simp[Env.back,Key.loc]⟩,fun b t ht ho=>?_,fun b i ho=>?_⟩
 ·simp only[Env.back];by_cases hh:b<E.h.size∧(E.own b).loc=true
  ·rw[key b hh.1 hh.2]at ho;cases ho
  ·rw[if_neg hh];exact ho
 ·simp only[Env.back];by_cases hh:b<E.h.size∧(E.own b).loc=true
  ·rw[key b hh.1 hh.2]at ho;cases ho
  ·rw[if_neg hh];exact ho
theorem bq.call(h:bq E0 E w0 w s a){g':Nat→Option Ob}{iP:Nat}(hE:Ext du E.mask E')(hG:xy E' w' g' iP)(hs:jk w w'):
  bq E0 (E.back E') w0 w' {s with t:=fY mN s.t,b:=fe mN s.b,g:=g',nx:=iP,up:=lG mN s.up} a:=by
 have Ng:=Ez hE hG
 have SQ:Ext du E (E.back E'):=by
  refine⟨hE.size,fun b o hh=>hE.aI b o hh,fun k hk=>?_,fun b hb hn=>?_⟩
  ·cases k with
   |s d=>exact⟨by simpa[Env.back,Key.loc]using hk,by simp[Env.back,Key.loc],by simp[Env.back,Key.loc]⟩
   |r d j=>exact⟨by simpa[Env.back,Key.loc]using hk,by simp[Env.back,Key.loc],by simp[Env.back,Key.loc]⟩
   |o i=>
    obtain⟨k1,k2,k3⟩:=hE.live (.o i) ⟨rfl,hk⟩;exact⟨by simpa[Env.back,Key.loc]using k1,by simp only[Env.back,Key.loc];exact k2,by simp only[Env.back,Key.loc];exact k3⟩
  ·have hm: ¬du (E.mask.own b):=by
    simp only[Env.mask]
    split
    ·simp[du,Own.du]
    ·exact hn
   obtain⟨k1,k2,k3,k4⟩:=hE.bw b hb hm;refine⟨?_,k2,k3,k4⟩;simp only[Env.back];by_cases hh:(E.own b).loc=true
   ·rw[if_pos ⟨hb,hh⟩]
   ·rw[if_neg (fun h2=>hh h2.2),k1];simp only[Env.mask];rw[if_neg hh]
 refine h.xZ (T:=mN) SQ (fun t ht=>absurd ht (iG t)) (fun o ho=> .inr ho) ⟨hG.wf.aI,fun b hb=>?_,hG.wf.fz⟩ hG.heap hs (fun b hb hg=>?_) _ g' iP (fun d ob hd=>?_) (fun d hl=>?_) (fun i ob hi=> .inr (Ng.ob (hG.gk i ob hi) (hG.gx i ob hi))) (fun i=>?_) hG.gk (fun b=>by
  have h1:=h.ng b
  have h2:=hG.ng b
  simp only[Env.back]
  split
  ·exact h1
  ·exact h2)
 ·simp only[Env.back]at hb;by_cases hh:b<E.h.size∧(E.own b).loc=true
  ·exact Nat.lt_of_lt_of_le hh.1 hE.size
  ·rw[if_neg hh]at hb;exact hG.wf.own b hb
 ·have xR: ¬(E.own b).loc=true:=fun hh=>by have:=h.wI b hb;rw[this]at hh;cases hh
  simp only[Env.back];rw[if_neg (fun h2=>xR h2.2)];exact hG.own b
 ·rw[cE]at hd;cases hh:look d s.b with
  |none=>rw[hh]at hd;simp at hd
  |some z=>rw[hh]at hd;simp at hd;exact .inl ⟨z,rfl,hd.symm,(fun hf=>by simp[du,Own.du,Key.loc]at hf),iG _⟩
 ·have rB:E.live (.s d):=by simpa[Env.back,Key.loc]using hl
  obtain⟨ob,ho⟩:=h.lv d rB;exact⟨_,by rw[cE,ho];rfl⟩
 ·rw[←hG.gl i];simp[Env.back,Key.loc]
theorem Jv{f:Nat}{fn:Func}{c:Code}(hf:P.funcs[f]? =some fn)(hb:fn.body=some c)(hn:fn.name≠ "runtime.NumGoroutine")(args:Array Value)(w:World):(callFunc f args).run P w= .ok (.enter f args) w:=by
 unfold callFunc;simp[Sem.run_bind,program,Sem.run,Result.andThen,hf,hb,hn]
def ov(P:Program)(f:Nat):Prop:= ∀args w,(callFunc f args).run P w= .ok (.enter f args) w
def Te(P:Program)(yl:YH):Prop:=
 ∀{d:Nat} {args:List AV} {s:St} {K:bd} {E0 E:Env} {w0 w:World} {a:Act} {vs:List Value},yl d args s K→bq E0 E w0 w s a→vs.length=args.length→(∀(q:Nat) (b:AV) (y:Value),args[q]? =some b→vs[q]? =some y→Cz E b y)→
  YieldAt Fence.wide 0 P (E.m (.s d)) vs.toArray w fun e w'=> ∃x,e= .returned x∧ ∃r s' E',K r s'∧bq E0 E' w0 w' s' a∧Cz E' r x
def Ds(P:Program)(C:dx):Prop:=
 ∀yl:YH,Te P yl→ ∀{k:Nat} {args:List AV} {s:St} {K:bd} {E0 E:Env} {w0 w:World} {a:Act} {vs:List Value},C.inl yl k args s K→bq E0 E w0 w s a→vs.length=args.length→(∀(q:Nat) (b:AV) (y:Value),args[q]? =some b→vs[q]? =some y→Cz E b y)→
  ov P k∧Calls P k vs.toArray w fun e w'=> ∃x,e= .returned x∧ ∃r s' E',K r s'∧bq E0 E' w0 w' s' a∧Cz E' r x
def CA(P:Program)(C:dx):Prop:= ∀ρ f args g nx r g' iP,C.call ρ f args g nx r g' iP→ov P f∧lA P f args g nx r g' iP
 mutual
def sF:AV→Nat
  | .sl r xs=>max r (qV xs)
  | .gs r _ xs=>max r (qV xs)
  | .aR r cs _=>max r (oQ cs)
  | .ar _ _ xs=>qV xs
  | .fn _ cs=>oQ cs
  | .bm _ cs=>oQ cs
  | .lB r _ xs=>max r (qV xs)
  | .agg cs=>oQ cs
  | .gw cs=>oQ cs
  |_=>0
def oQ:List AV→Nat
  |[]=>0
  |a::r=>max (sF a) (oQ r)
def qV:List (List AV)→Nat
  |[]=>0
  |l::r=>max (oQ l) (qV r)
end
theorem mz: ∀{cs:List AV} {q:Nat} {a:AV},cs[q]? =some a→sF a≤oQ cs
 |[],q,a,h=>by simp at h
 |x::r,q,a,h=>by
  simp only[oQ];cases q with
  |zero=>simp at h;subst h;omega
  |succ q=>have:=mz (cs:=r) (q:=q) (a:=a) (by simpa using h);omega
theorem qU: ∀{xs:List (List AV)} {q:Nat} {a:AV},xs.flatten[q]? =some a→sF a≤qV xs
 |[],q,a,h=>by simp at h
 |l::r,q,a,h=>by
  simp only[qV];rw[List.flatten_cons]at h;by_cases aV:q<l.length
  ·rw[iq aV]at h;have:=mz h;omega
  ·rw[ji (by omega)]at h;have:=qU h;omega
theorem H2: ∀l m:List AV,oQ (l++m)=max (oQ l) (oQ m)
 |[],m=>by simp[oQ]
 |a::r,m=>by simp only[List.cons_append,oQ,H2 r m];omega
theorem FN: ∀xs:List (List AV),oQ xs.flatten≤qV xs
 |[]=>by simp[oQ,qV]
 |l::r=>by simp only[List.flatten_cons,H2,qV];have:=FN r;omega
def Mc:Ob→Nat
 | .box cs=>oQ cs
 | .arr _ xs=>qV xs
 | .ow .. =>0
 | .lp .. =>0
structure TrG(ρ:Nat)(E E':Env):Prop where
 h:E'.h=E.h
 st: ∀b o,E.aI b o→E.dN b<ρ→E'.aI b o∧E'.dN b=E.dN b
 live: ∀i,E.live (.o i)→E'.live (.o i)∧E'.m (.o i)=E.m (.o i)∧E'.len (.o i)=E.len (.o i)
 tok: ∀b t,t.loc=false→E.own b= .tok t→E.dN b<ρ→E'.own b= .tok t∧E'.dN b=E.dN b∧ ∀o,E'.aI b o→E.aI b o
 key: ∀b i,E.own b= .key (.o i)→E'.own b= .key (.o i)∧ ∀o,E'.aI b o→E.aI b o
theorem TrG.bX{ρ:Nat}(k:TrG ρ E E'){av:AV}{x:Value}(h:Cz E av x):bX av=true→sF av<ρ→Cz E' av x:=by
 induction h with
 |any x=>exact fun _ _=> .any _
 |v x=>exact fun _ _=> .v _
 |mq r A c=>exact fun _ _=> .mq _ _ _
 |sl r xs z b o c u hp hc hm dw hz hr hi er hu hq ih=>
  intro _ yc;simp only[sF]at yc;have hf:=aB hz
  obtain⟨a0,ha0⟩:=qR (l:=xs.flatten) (by rw[hf];exact Nat.mul_pos hp dw);have hrg:E.dN b<ρ:=by rw[hr];omega
  exact .sl r xs z b o c u hp hc hm dw hz ((k.st _ _ (er 0 a0 ha0) hrg).2.trans hr) hi (fun q a dc=>(k.st _ _ (er q a dc) hrg).1) (fun q a dc=>by rw[k.h];exact hu q a dc) (fun q a dc=>ih q a dc (hi q a dc) (by have:=qU dc;omega))
 |rH r t=>exact fun _ _=> .rH _ _
 |gs r t xs=>intro hi;simp[Ab.bX]at hi
 |aR r cs off b o u hr hi er hu hq ih=>
  intro _ yc;simp only[sF]at yc;exact .aR r cs off b o u (fun q a dc=>(k.st _ _ (er q a dc) (by rw[hr q a dc];omega)).2.trans (hr q a dc)) hi (fun q a dc=>(k.st _ _ (er q a dc) (by rw[hr q a dc];omega)).1) (fun q a dc=>by rw[k.h];exact hu q a dc) (fun q a dc=>ih q a dc (hi q a dc) (by have:=mz dc;omega))
 |ptr q off hl=>
  intro hi;cases q with
  |s e=>simp[Ab.bX,Key.loc]at hi
  |r e j=>simp[Ab.bX,Key.loc]at hi
  |o i=>obtain⟨h1,h2,_⟩:=k.live i hl;rw[←h2];exact fun _=> .ptr _ _ h1
 |eW q n hl hn hc hm=>
  intro hi;cases q with
  |s e=>simp[Ab.bX,Key.loc]at hi
  |r e j=>simp[Ab.bX,Key.loc]at hi
  |o i=>obtain⟨h1,h2,h3⟩:=k.live i hl;rw[←h2,←h3];exact fun _=> .eW _ _ h1 (by rw[h3];exact hn) (by rw[h3];exact hc) (by rw[h3];exact hm)
 |ca q i off z hl=>
  intro hi;cases q with
  |s e=>simp[Ab.bX,Key.loc]at hi
  |r e j=>simp[Ab.bX,Key.loc]at hi
  |o i=>obtain⟨h1,h2,_⟩:=k.live i hl;rw[←h2];exact fun _=> .ca _ _ _ _ h1
 |mp q hl=>
  intro hi;cases q with
  |s e=>simp[Ab.bX,Key.loc]at hi
  |r e j=>simp[Ab.bX,Key.loc]at hi
  |o i=>obtain⟨h1,h2,_⟩:=k.live i hl;rw[←h2];exact fun _=> .mp _ h1
 |nM q hl=>
  intro hi;cases q with
  |s e=>simp[Ab.bX,Key.loc]at hi
  |r e j=>simp[Ab.bX,Key.loc]at hi
  |o i=>obtain⟨h1,h2,_⟩:=k.live i hl;rw[←h2];exact fun _=> .nM _ h1
 |ar n z xs ys hn hz hl hi hq ih=>intro _ yc;simp only[sF]at yc;exact .ar n z xs ys hn hz hl hi fun q a y ha hy=>ih q a y ha hy (hi q a ha) (by have:=qU ha;omega)
 |bm f cs ys hl hi hq ih=>intro _ yc;simp only[sF]at yc;exact .bm f cs ys hl hi fun q a y ha hy=>ih q a y ha hy (hi q a ha) (by have:=mz ha;omega)
 |lB r z xs x hz h ih=>
  intro _ yc;simp only[sF]at yc;exact .lB r z xs x hz (ih rfl (by simp only[sF];have:=FN xs;omega))
 |fn f cap ys hl hq ih=>intro hi yc;simp only[sF]at yc;exact .fn f cap ys hl fun q a y ha hy=>ih q a y ha hy (bf (by simpa[Ab.bX]using hi) q a ha) (by have:=mz ha;omega)
 |agg cs ys hl hq ih=>intro hi yc;simp only[sF]at yc;exact .agg cs ys hl fun q a y ha hy=>ih q a y ha hy (bf (by simpa[Ab.bX]using hi) q a ha) (by have:=mz ha;omega)
 |gw cs ys hl hq ih=>intro hi yc;simp only[sF]at yc;exact .gw cs ys hl fun q a y ha hy=>ih q a y ha hy (bf (by simpa[Ab.bX]using hi) q a ha) (by have:=mz ha;omega)
theorem TrG.gs{ρ:Nat}(k:TrG ρ E E'){r:Nat}{t:Tok}{xs:List (List AV)}{x:Value}(ht:t.loc=false)(h:Cz E (.gs r t xs) x)(yc:sF (.gs r t xs)<ρ):Cz E' (.gs r t xs) x:=by
 simp only[sF]at yc;cases h with
 |rH=>exact .rH _ _
 |gs _ _ _ z b c e cells u hc hm h0 dw hz hr hb dg ho er hi hu hq=>
  have hrg:E.dN b<ρ:=by rw[hr];omega
  obtain⟨k1,k2,k3⟩:=k.tok b t ht ho hrg;exact .gs r t xs z b c e cells u hc hm h0 dw hz (k2.trans hr) (by rw[k.h];exact hb) dg k1 (fun o=>⟨fun hh=>(er o).1 (k3 o hh),fun hh=>(k.st b o ((er o).2 hh) hrg).1⟩) hi (fun q a dc=>by rw[k.h];exact hu q a dc) (fun q a dc=>k.bX (hq q a dc) (hi q a dc) (by have:=qU dc;omega))
theorem TrG.ob{ρ:Nat}(k:TrG ρ E E'){i:Nat}{ob:Ob}(hg:match ob with
   | .box cs=> ∀(q:Nat) (a:AV),cs[q]? =some a→Ab.bX a=true
   | .arr _ _=>True
   | .ow .. =>False
   | .lp .. =>False)(h:bM E (.o i) ob)(yc:Mc ob<ρ):bM E' (.o i) ob:=by
 cases ob with
 |box cs=>
  obtain⟨hl,c,e,hb,ho,hs,dg,hq⟩:=h;obtain⟨l1,l2,l3⟩:=k.live i hl;obtain⟨k1,k2⟩:=k.key _ i ho;simp only[Mc]at yc;refine⟨l1,c,e,by rw[l2,k.h];exact hb,by rw[l2];exact k1,fun o hh=>hs o (k2 o (by rw[l2]at hh;exact hh)),dg,fun q a x ha hx=>?_⟩;have:=mz ha
  exact k.bX (hq q a x ha hx) (hg q a ha) (by omega)
 |arr z xs=>
  obtain⟨hl,nQ,dw,hz,hm,c,e,hb,ho,hs,dg,hi,hq⟩:=h;obtain⟨l1,l2,l3⟩:=k.live i hl;obtain⟨k1,k2⟩:=k.key _ i ho;simp only[Mc]at yc;exact⟨l1,l3.trans nQ,dw,hz,hm,c,e,by rw[l2,k.h];exact hb,by rw[l2];exact k1,fun o hh=>hs o (k2 o (by rw[l2]at hh;exact hh)),dg,hi,fun q a x ha hx=>k.bX (hq q a x ha hx) (hi q a ha) (by have:=qU ha;omega)⟩
 |ow=>exact hg.elim
 |lp=>exact hg.elim
def ey(E:Env)(s:St)(b:Nat):Prop:=(∃c e,E.h[b]? =some (.cells c e (0,0)))∧((∃d ob,look d s.b=some ob∧b=E.m (.s d))∨
 ∃d z ys i a r,look d s.b=some (.ow (.g2 z ys) none [])∧ys[i]? =some (a::r)∧b=E.m (.r d i))
open Classical in
noncomputable def Env.jL(E:Env)(B:Nat→Prop)(ρ:Nat):Env:=
 {E.mask with aI:=fun b o=>E.aI b o∨(B b∧b<E.h.size),dN:=fun b=>if B b then ρ else E.dN b}
open Classical in
noncomputable def Env.mL(E E':Env)(B:Nat→Prop):Env:=
 {E.back E' with aI:=fun b o=>E'.aI b o∧ ¬B b,dN:=fun b=>if B b then E.dN b else E'.dN b}
theorem je(h:bq E0 E w0 w s a){b:Nat}(hb:ey E s b):b<E.h.size∧(E.own b).loc=true∧ ∀o,¬E.aI b o:=by
 obtain⟨⟨c0,e0,hc0⟩,hb⟩:=hb;refine⟨(Array.getElem?_eq_some_iff.1 hc0).1,?_⟩;rcases hb with⟨d,ob,hd,rfl⟩|⟨d,z,ys,i,a',r,hd,hi,rfl⟩
 ·have h1:=h.bx d ob hd
  cases ob with
  |box cs=>obtain⟨hl,c,e,dM,ho,hs,_⟩:=h1;exact⟨by rw[ho];rfl,hs⟩
  |arr z xs=>obtain⟨hl,_,_,_,_,c,e,dM,ho,hs,_⟩:=h1;exact⟨by rw[ho];rfl,hs⟩
  |ow=>obtain⟨hl,ho,hs,_⟩:=h1;exact⟨by rw[ho];rfl,hs⟩
  |lp=>obtain⟨hl,ho,hs,rec,dM,_⟩:=h1;exact⟨by rw[ho];rfl,hs⟩
 ·obtain⟨_,_,_,_,u,⟨_,_,_,_,_,⟨c,e,_,_,fo⟩,_⟩,_⟩:=h.bx d _ hd;obtain⟨x,_,hx⟩:=fo i _ hi;obtain⟨_,_,_,_,k5,k6,_⟩:=hx;have k5:E.own (E.m (.r d i))= .tok (.n d):=k5
  exact⟨by rw[k5];rfl,k6⟩
theorem AN(h:bq E0 E w0 w s a)(ρ ρ':Nat):TrG ρ' E (E.jL (ey E s) ρ) where
 h:=rfl
 st:=fun b o hs _=>⟨.inl hs,by
  simp only[Env.jL];rw[if_neg fun hB=>(je h hB).2.2 o hs]⟩
 live:=fun i hi=>⟨⟨rfl,hi⟩,rfl,rfl⟩
 tok:=fun b t ht ho _=>by
  have YV: ¬ey E s b:=fun hB=>by have:=(je h hB).2.1;rw[ho]at this;simp[Own.loc,ht]at this
  refine⟨by simp only[Env.jL,Env.mask];rw[ho];simp[Own.loc,ht],by simp only[Env.jL];rw[if_neg YV],fun o hh=>?_⟩;rcases hh with hh|hh
  ·exact hh
  ·exact absurd hh.1 YV
 key:=fun b i ho=>by
  have YV: ¬ey E s b:=fun hB=>by have:=(je h hB).2.1;rw[ho]at this;simp[Own.loc,Key.loc]at this
  refine⟨by simp only[Env.jL,Env.mask];rw[ho];simp[Own.loc,Key.loc],fun o hh=>?_⟩;rcases hh with hh|hh
  ·exact hh
  ·exact absurd hh.1 YV
theorem bq.jL(h:bq E0 E w0 w s a)(ρ:Nat):xy (E.jL (ey E s) ρ) w s.g s.nx where
 heap:=h.heap
 wf:=⟨fun b o hs=>hs.elim (h.wf.aI b o) fun hs=>hs.2,h.mask.wf.own,fun b o hs hr=>by
  rcases hs with hs|hs
  ·have YV: ¬ey E s b:=fun hB=>(je h hB).2.2 o hs
   simp only[Env.jL]at hr;rw[if_neg YV]at hr;exact h.wf.fz b o hs hr
  ·exact hs.1.1⟩
 nl:=h.mask.nl
 gl:=h.mask.gl
 own:=h.mask.own
 gk:=h.gk
 ng:=h.mask.ng
 gx:=fun i ob hi=>(AN h ρ (Mc ob+1)).ob (h.gk i ob hi) (h.gx i ob hi) (Nat.lt_succ_self _)
theorem P7(h:bq E0 E w0 w s a){ρ:Nat}{g':Nat→Option Ob}{iP:Nat}(hE:Ext du (E.jL (ey E s) ρ) E')(hG:xy E' w' g' iP):TrG ρ E' (E.mL E' (ey E s)):=by
 have key: ∀b,b<E.h.size→(E.own b).loc=true→E'.own b= .kM∧E'.dN b=(E.jL (ey E s) ρ).dN b:=fun b hb ho=>by
  have hm:(E.jL (ey E s) ρ).own b= .kM:=by simp only[Env.jL,Env.mask];rw[if_pos ho]
  have:=hE.bw b hb (by rw[hm];simp[du,Own.du])
  exact⟨this.1.trans hm,this.2.2.2⟩
 have kg: ∀b,ey E s b→E'.own b= .kM∧E'.dN b=ρ:=fun b hB=>by
  obtain⟨h1,h2,_⟩:=je h hB;obtain⟨h3,h4⟩:=key b h1 h2;exact⟨h3,h4.trans (by simp only[Env.jL];rw[if_pos hB])⟩
 have Mz: ∀b,E'.dN b<ρ→ ¬ey E s b:=fun b hr hB=>by rw[(kg b hB).2]at hr;omega
 refine⟨rfl,fun b o hs hr=>⟨⟨hs,Mz b hr⟩,by simp only[Env.mL];rw[if_neg (Mz b hr)]⟩,fun i hi=>⟨by simpa[Env.mL,Env.back,Key.loc]using hi,by simp[Env.mL,Env.back,Key.loc],by simp[Env.mL,Env.back,Key.loc]⟩,fun b t ht ho hr=>⟨?_,by simp only[Env.mL];rw[if_neg (Mz b hr)],fun o hh=>hh.1⟩,fun b i ho=>⟨?_,fun o hh=>hh.1⟩⟩
 ·simp only[Env.mL,Env.back];by_cases hh:b<E.h.size∧(E.own b).loc=true
  ·rw[(key b hh.1 hh.2).1]at ho;cases ho
  ·rw[if_neg hh];exact ho
 ·simp only[Env.mL,Env.back];by_cases hh:b<E.h.size∧(E.own b).loc=true
  ·rw[(key b hh.1 hh.2).1]at ho;cases ho
  ·rw[if_neg hh];exact ho
theorem bq.mL(h:bq E0 E w0 w s a){ρ:Nat}{g':Nat→Option Ob}{iP:Nat}(hE:Ext du (E.jL (ey E s) ρ) E')(hG:xy E' w' g' iP)(hs:jk w w')(hρ: ∀i ob,g' i=some ob→Mc ob<ρ):
  bq E0 (E.mL E' (ey E s)) w0 w' {s with t:=fY mN s.t,b:=fe mN s.b,g:=g',nx:=iP,up:=lG mN s.up} a:=by
 have Ng:=P7 h hE hG
 have SQ:Ext du E (E.mL E' (ey E s)):=by
  refine⟨hE.size,fun b o hh=>?_,fun k hk=>?_,fun b hb hn=>?_⟩
  ·have YV: ¬ey E s b:=fun hB=>(je h hB).2.2 o hh
   obtain⟨k1,k2,k3⟩:=hE.aI b o (.inl hh);refine⟨⟨k1,YV⟩,k2,?_⟩;simp only[Env.mL];rw[if_neg YV];exact k3.trans (by simp only[Env.jL];rw[if_neg YV])
  ·cases k with
   |s d=>exact⟨by simpa[Env.mL,Env.back,Key.loc]using hk,by simp[Env.mL,Env.back,Key.loc],by simp[Env.mL,Env.back,Key.loc]⟩
   |r d j=>exact⟨by simpa[Env.mL,Env.back,Key.loc]using hk,by simp[Env.mL,Env.back,Key.loc],by simp[Env.mL,Env.back,Key.loc]⟩
   |o i=>
    obtain⟨k1,k2,k3⟩:=hE.live (.o i) ⟨rfl,hk⟩;exact⟨by simpa[Env.mL,Env.back,Key.loc]using k1,by simp only[Env.mL,Env.back,Key.loc];exact k2,by simp only[Env.mL,Env.back,Key.loc];exact k3⟩
  ·have hm: ¬du ((E.jL (ey E s) ρ).own b):=by
    simp only[Env.jL,Env.mask]
    split
    ·simp[du,Own.du]
    ·exact hn
   obtain⟨k1,k2,k3,k4⟩:=hE.bw b hb hm;refine⟨?_,k2,fun o=>?_,?_⟩
   ·simp only[Env.mL,Env.back];by_cases hh:(E.own b).loc=true
    ·rw[if_pos ⟨hb,hh⟩]
    ·rw[if_neg (fun h2=>hh h2.2),k1];simp only[Env.jL,Env.mask];rw[if_neg hh]
   ·by_cases hB:ey E s b
    ·exact⟨fun hh=>absurd hB hh.2,fun hh=>absurd hh ((je h hB).2.2 o)⟩
    ·refine⟨fun hh=>?_,fun hh=>⟨(k3 o).2 (.inl hh),hB⟩⟩;rcases(k3 o).1 hh.1 with h2|h2
     ·exact h2
     ·exact absurd h2.1 hB
   ·simp only[Env.mL];by_cases hB:ey E s b
    ·rw[if_pos hB]
    ·rw[if_neg hB];exact k4.trans (by simp only[Env.jL];rw[if_neg hB])
 refine h.xZ (T:=mN) SQ (fun t ht=>absurd ht (iG t)) (fun o ho=> .inr ho) ⟨fun b o hh=>hG.wf.aI b o hh.1,fun b hb=>?_,fun b o hh hr=>hG.wf.fz b o hh.1 (by simp only[Env.mL]at hr;rwa [if_neg hh.2]at hr)⟩ hG.heap hs (fun b hb hg=>?_) _ g' iP (fun d ob hd=>?_) (fun d hl=>?_) (fun i ob hi=> .inr (Ng.ob (hG.gk i ob hi) (hG.gx i ob hi) (hρ i ob hi))) (fun i=>?_) hG.gk (fun b=>by
  have h1:=h.ng b
  have h2:=hG.ng b
  simp only[Env.mL,Env.back]
  split
  ·exact h1
  ·exact h2)
 ·simp only[Env.mL,Env.back]at hb;by_cases hh:b<E.h.size∧(E.own b).loc=true
  ·exact Nat.lt_of_lt_of_le hh.1 hE.size
  ·rw[if_neg hh]at hb;exact hG.wf.own b hb
 ·have xR: ¬(E.own b).loc=true:=fun hh=>by have:=h.wI b hb;rw[this]at hh;cases hh
  simp only[Env.mL,Env.back];rw[if_neg (fun h2=>xR h2.2)];exact hG.own b
 ·rw[cE]at hd;cases hh:look d s.b with
  |none=>rw[hh]at hd;simp at hd
  |some z=>rw[hh]at hd;simp at hd;exact .inl ⟨z,rfl,hd.symm,(fun hf=>by simp[du,Own.du,Key.loc]at hf),iG _⟩
 ·have rB:E.live (.s d):=by simpa[Env.mL,Env.back,Key.loc]using hl
  obtain⟨ob,ho⟩:=h.lv d rB;exact⟨_,by rw[cE,ho];rfl⟩
 ·rw[←hG.gl i];simp[Env.mL,Env.back,Key.loc]
theorem Q7{g':Nat→Option Ob}: ∀n:Nat,∃N,∀i ob,i<n→g' i=some ob→Mc ob<N
 |0=>⟨0,fun i ob hi=>by omega⟩
 |n+1=>by
  obtain⟨N,hN⟩:=Q7 (g':=g') n;cases hg:g' n with
  |none=>exact⟨N,fun i ob hi Io=>by
    by_cases h:i=n
    ·subst h;rw[hg]at Io;cases Io
    ·exact hN i ob (by omega) Io⟩
  |some o=>exact⟨N+Mc o+1,fun i ob hi Io=>by
    by_cases h:i=n
    ·subst h;rw[hg]at Io;cases Io;omega
    ·have:=hN i ob (by omega) Io;omega⟩
theorem alG(hI:C.I=al)(h:bq E0 E w0 w s a){ρ d n z:Nat}{ys:List (List (List AV))}{x:Value}(hl:look d s.b=some (.ow (.g2 z ys) none []))(hx:Cz E (.eW (.s d) n) x):Cz (E.jL (ey E s) ρ) (.sl ρ (C.I.abx ρ n ys)) x:=by
 rw[hI];show Cz _ (.sl ρ ((ys.take n).map fun row=>[AV.sl ρ row])) x;obtain⟨_,ho,hs,_,u,⟨_,dw,nQ,hle,hm,⟨c,e,hb,dg,fo⟩,_⟩,_⟩:=h.bx d _ hl;cases hx;have YW:n≤(E.len (.s d)).1:=by assumption
 have kg:ey E s (E.m (.s d)):=⟨⟨c,e,hb⟩,.inl ⟨d,_,hl,rfl⟩⟩
 have hbs:=(je h kg).1
 have xR:((ys.take n).map fun row=>[AV.sl ρ row]).length=n:=by rw[List.length_map,List.length_take];omega
 have C7: ∀(q:Nat) (b:AV),((ys.take n).map fun row=>[AV.sl ρ row]).flatten[q]? =some b→ ∃row,ys[q]? =some row∧b= .sl ρ row:=fun q b ku=>by
  have e1:((ys.take n).map fun row=>[AV.sl ρ row]).flatten=(ys.take n).map (fun row=>AV.sl ρ row):=by
   induction ys.take n with
   |nil=>rfl
   |cons a r ih=>simp[ih]
  rw[e1,List.getElem?_map]at ku;cases hq:(ys.take n)[q]? with
  |none=>rw[hq]at ku;cases ku
  |some row=>
   rw[hq]at ku;cases ku;rw[List.getElem?_take]at hq
   split at hq
   ·exact⟨row,hq,rfl⟩
   ·cases hq
 by_cases hn0:n=0
 ·subst hn0;exact .mq _ _ _
 ·have jM: ∀(q:Nat) (row:List (List AV)),ys[q]? =some row→Cz (E.jL (ey E s) ρ) (.sl ρ row) (c.getD q undef):=fun q row hq=>by
   obtain⟨x,h1,h2⟩:=fo q row hq;have e2:c.getD q undef=x:=by simp[Array.getD_eq_getD_getElem?,h1]
   rw[e2];cases row with
   |nil=>obtain⟨A,cp,rfl⟩:=h2;exact .mq _ _ _
   |cons b r=>
    obtain⟨k1,k2,k3,k4,k5,k6,c',e',k7,k8,k9,Tv⟩:=h2;have YX:ey E s (E.m (.r d q)):=⟨⟨c',e',k7⟩,.inr ⟨d,z,ys,q,b,r,hl,hq,rfl⟩⟩
    rw[k4];exact Cz.sl (E:=E.jL (ey E s) ρ) ρ (b::r) z (E.m (.r d q)) 0 (r.length+1) (fun j=>c'.getD j undef) (by simp) (by simp) k3 dw k9 (by simp only[Env.jL];rw[if_pos YX])
     (fun j a' ha=>by obtain⟨y,rfl,_⟩:=Tv j a' ha;rfl) (fun j a' ha=> .inr ⟨YX,(je h YX).1⟩) (fun j a' ha=>by
      obtain⟨y,_,h4⟩:=Tv j a' ha;have k7:E.h[E.m (.r d q)]? =some (.cells c' e' (0,0)):=k7
      show aO E.h _ _=_;simp only[aO,k7,Nat.zero_add];simp[Array.getD_eq_getD_getElem?,h4]) (fun j a' ha=>by
      obtain⟨y,rfl,h4⟩:=Tv j a' ha;have e3:c'.getD j undef=y:=by simp[Array.getD_eq_getD_getElem?,h4]
      rw[e3];exact .v _)
  have:=Cz.sl (E:=E.jL (ey E s) ρ) ρ ((ys.take n).map fun row=>[AV.sl ρ row]) 1 (E.m (.s d)) 0 (E.len (.s d)).2 (fun q=>c.getD q undef) (by rw[xR];omega) (by rw[xR];omega) hm (by omega) (fun l rB=>by
    obtain⟨row,_,rfl⟩:=List.mem_map.1 rB;rfl) (by simp only[Env.jL];rw[if_pos kg])
   (fun q b ku=>by obtain⟨row,_,rfl⟩:=C7 q b ku;rfl) (fun q b ku=> .inr ⟨kg,hbs⟩) (fun q b ku=>by
    obtain⟨row,h1,rfl⟩:=C7 q b ku;obtain⟨x,h2,h3⟩:=fo q row h1;show aO E.h _ _=_;simp only[aO,hb,Nat.zero_add];simp[Array.getD_eq_getD_getElem?,h2])
   (fun q b ku=>by obtain⟨row,h1,rfl⟩:=C7 q b ku;exact jM q row h1)
  rw[xR]at this;exact this
theorem Jo(hI:C.I=al)(h:bq E0 E w0 w s a)(ρ:Nat){av:AV}{x:Value}(hx:Cz E av x)(hi:Ab.bX (snap C.I ρ s.b av)=true):Cz (E.jL (ey E s) ρ) (snap C.I ρ s.b av) x:=by
 have plain: ∀{av:AV},Ab.bX av=true→Cz E av x→Cz (E.jL (ey E s) ρ) av x:=fun{av} hi hx=>(AN h ρ (sF av+1)).bX hx hi (Nat.lt_succ_self _)
 unfold snap at hi ⊢
 split at hi
 ·rename_i d n;cases hl:look d s.b with
  |none=>rw[hl]at hi;simp[Ab.bX,Key.loc]at hi
  |some ob=>cases ob with
   |box cs=>rw[hl]at hi;simp[Ab.bX,Key.loc]at hi
   |ow p rD zs=>
    cases p with
    |sl=>rw[hl]at hi;simp[Ab.bX,Key.loc]at hi
    |mp=>rw[hl]at hi;simp[Ab.bX,Key.loc]at hi
    |g2 z ys=>
    cases rD with
    |some _=>rw[hl]at hi;simp[Ab.bX,Key.loc]at hi
    |none=>
    cases zs with
    |cons _ _=>rw[hl]at hi;simp[Ab.bX,Key.loc]at hi
    |nil=>
    exact alG hI h hl hx
   |lp=>rw[hl]at hi;simp[Ab.bX,Key.loc]at hi
   |arr z xs=>
    obtain⟨_,nQ,dw,hz,hm,c,e,dM,ho,hs,dg,kY,hq⟩:=h.bx d _ hl;cases hx;rename_i hlv YW hn2 hn3;rw[nQ]at YW hn2 hn3;dsimp only at YW hn2 hn3;rw[nQ];dsimp only;have kg:ey E s (E.m (.s d)):=⟨⟨c,e,dM⟩,.inl ⟨d,_,hl,rfl⟩⟩
    have hbs:=(je h kg).1
    have xR:(xs.take n).length=n:=by rw[List.length_take];omega
    by_cases hn0:n=0
    ·subst hn0;exact .mq _ _ _
    ·have C7: ∀(q:Nat) (b:AV),(xs.take n).flatten[q]? =some b→xs.flatten[q]? =some b:=fun q b ku=>by
      have:=List.take_append_drop n xs
      rw[←this,List.flatten_append,iq (bh.1 ku).1];exact ku
     have tJ: ∀(q:Nat) (b:AV),xs.flatten[q]? =some b→ ∃y,c[q]? =some y∧Cz E b y:=fun q b ku=>by
      have aV:q<c.size:=by rw[dg,←aB hz];exact(bh.1 ku).1
      exact⟨c[q],by simp[aV],hq q b _ ku (by simp[aV])⟩
     have:=Cz.sl (E:=E.jL (ey E s) ρ) ρ (xs.take n) z (E.m (.s d)) 0 xs.length (fun q=>c.getD q undef) (by rw[xR];omega) (by rw[xR];omega) hm dw (fun l rB=>hz l (List.mem_of_mem_take rB)) (by simp only[Env.jL];rw[if_pos kg])
      (fun q b ku=>kY q b (C7 q b ku)) (fun q b ku=> .inr ⟨kg,hbs⟩) (fun q b ku=>by
       obtain⟨y,h1,h2⟩:=tJ q b (C7 q b ku);show aO E.h _ _=_;simp only[aO,dM,Nat.zero_add];simp[Array.getD_eq_getD_getElem?,h1])
      (fun q b ku=>by
       obtain⟨y,h1,h2⟩:=tJ q b (C7 q b ku);have e:c.getD q undef=y:=by simp[Array.getD_eq_getD_getElem?,h1]
       rw[e];exact(AN h ρ (sF b+1)).bX h2 (kY q b (C7 q b ku)) (Nat.lt_succ_self _))
     rw[xR]at this;exact this
 ·rename_i d off;cases hl:look d s.b with
  |none=>rw[hl]at hi;simp[Ab.bX,Key.loc]at hi
  |some ob=>cases ob with
   |arr z xs=>
    rw[hl]at hi;dsimp only at hi ⊢;cases hof:bQ off 0 with
    |false=>rw[hof]at hi;simp[Ab.bX,Key.loc]at hi
    |true=>
    rw[aE];have:=cY hof
    subst this;obtain⟨_,nQ,dw,hz,hm,c,e,dM,ho,hs,dg,kY,hq⟩:=h.bx d _ hl;cases hx;rename_i F5;have kg:ey E s (E.m (.s d)):=⟨⟨c,e,dM⟩,.inl ⟨d,_,hl,rfl⟩⟩
    have hbs:=(je h kg).1
    have tJ: ∀(q:Nat) (b:AV),xs.flatten[q]? =some b→ ∃y,c[q]? =some y∧Cz E b y:=fun q b ku=>by
     have aV:q<c.size:=by rw[dg,←aB hz];exact(bh.1 ku).1
     exact⟨c[q],by simp[aV],hq q b _ ku (by simp[aV])⟩
    refine .lB ρ z xs _ hz (Cz.aR (E:=E.jL (ey E s) ρ) ρ xs.flatten 0 (E.m (.s d)) 0 (fun q=>c.getD q undef) (fun q b ku=>by simp only[Env.jL];rw[if_pos kg]) (fun q b ku=>kY q b ku) (fun q b ku=> .inr ⟨kg,hbs⟩) (fun q b ku=>?_) (fun q b ku=>?_))
    ·obtain⟨y,h1,h2⟩:=tJ q b ku;show aO E.h _ _=_;simp only[aO,dM,Nat.zero_add];simp[Array.getD_eq_getD_getElem?,h1]
    ·obtain⟨y,h1,h2⟩:=tJ q b ku;have e:c.getD q undef=y:=by simp[Array.getD_eq_getD_getElem?,h1]
     rw[e];exact(AN h ρ (sF b+1)).bX h2 (kY q b ku) (Nat.lt_succ_self _)
   |ow=>rw[hl]at hi;simp[Ab.bX,Key.loc]at hi
   |lp=>rw[hl]at hi;simp[Ab.bX,Key.loc]at hi
   |box cs=>
    rw[hl]at hi;dsimp only at hi ⊢;cases hic:cr (mc (fun _=>true) cs)with
    |false=>rw[hic]at hi;simp[Ab.bX,Key.loc]at hi
    |true=>
     rw[aE];obtain⟨_,c,e,dM,ho,hs,dg,hq⟩:=h.bx d _ hl;cases hx;rename_i F5;have kg:ey E s (E.m (.s d)):=⟨⟨c,e,dM⟩,.inl ⟨d,_,hl,rfl⟩⟩
     have hbs:=(je h kg).1
     have tJ: ∀(q:Nat) (b:AV),(mc (fun _=>true) cs)[q]? =some b→ ∃y,c[q]? =some y∧Cz E b y:=fun q b ku=>by
      have aV:q<c.size:=by rw[dg,←dy (fun _=>true) cs];exact(bh.1 ku).1
      rw[qH]at ku;cases hcq:cs[q]? with
      |none=>rw[hcq]at ku;cases ku
      |some b0=>rw[hcq]at ku;cases ku;exact⟨c[q],by simp[aV],(hq q b0 _ hcq (by simp[aV])).giveUp h.wf _⟩
     have:=Cz.aR (E:=E.jL (ey E s) ρ) ρ (mc (fun _=>true) cs) off (E.m (.s d)) 0 (fun q=>c.getD q undef) (fun q b _=>by simp only[Env.jL];rw[if_pos kg])
      (fun q b ku=>bf hic q b ku) (fun q b ku=> .inr ⟨kg,hbs⟩) (fun q b ku=>by
       obtain⟨y,h1,h2⟩:=tJ q b ku;show aO E.h _ _=_;simp only[aO,dM,Nat.zero_add];simp[Array.getD_eq_getD_getElem?,h1])
      (fun q b ku=>by
       obtain⟨y,h1,h2⟩:=tJ q b ku;have e:c.getD q undef=y:=by simp[Array.getD_eq_getD_getElem?,h1]
       rw[e];exact(AN h ρ (sF b+1)).bX h2 (bf hic q b ku) (Nat.lt_succ_self _))
     rw[Nat.zero_add]at this;exact this
 ·exact plain hi hx
theorem Ul(hI:C.I=al)(h:bq E0 E w0 w s a)(ρ:Nat){av:AV}{x:Value}(hx:Cz E av x)(hi:Ab.bX (Ag C.I ρ s.b av)=true):Cz (E.jL (ey E s) ρ) (Ag C.I ρ s.b av) x:=by
 unfold Ag at hi ⊢
 split at hi
 ·rename_i f cs;cases hx with
  |fn _ _ ys hl hq=>
   refine .fn f _ ys (by simp[hl]) fun q b y hb hy=>?_;have hbi:=bf (by simpa[bX]using hi) q b hb
   rw[List.getElem?_map]at hb;cases hc:cs[q]? with
   |none=>rw[hc]at hb;cases hb
   |some b0=>rw[hc]at hb;cases hb;exact Jo hI h ρ (hq q b0 y hc hy) hbi
 ·rename_i cs;cases hx with
  |agg _ ys hl hq=>
   refine .agg _ ys (by simp[hl]) fun q b y hb hy=>?_;have hbi:=bf (by simpa[bX]using hi) q b hb
   rw[List.getElem?_map]at hb;cases hc:cs[q]? with
   |none=>rw[hc]at hb;cases hb
   |some b0=>rw[hc]at hb;cases hb;exact Jo hI h ρ (hq q b0 y hc hy) hbi
 ·exact Jo hI h ρ hx hi
def mI(cl:Nat→Bool):Op→Bool
 | .call c=>match c.callee with
  | .value (.func k)=>cl k
  |_=>false
 |_=>false
theorem xD(hI:C.I=al)(jh: ∀k,C.cl k=true→C.tD k=false)(hC:CA P C)(auw:Ds P C)(hYl:Te P C.yl)(h:bq E0 E w0 w s a)(hp:bc s p){o:Oper}{c:Call}{f:Operand}(he:o.op= .call c)(hc:c.callee= .value f){K:bd}{Q:Exit→Act→World→Prop}
  (hk:wFn C p (bP s p f) (c.args.toList.map fun x=>rd (bP s p x)) s K):lz P o a w (fun a' w'=>fb E0 w0 o a K a' w'∧(mI C.cl o.op=true→cf w w')) Q:=by
 unfold wFn at hk;have hfv:=h.ev hp f
 have EA: ∀{cap:List AV} {ys:List Value},ys.length=cap.length→(∀(q:Nat) (a:AV) (y:Value),cap[q]? =some a→ys[q]? =some y→Cz E a y)→
   ((c.args.toList.map a.eval)++ys).length=((c.args.toList.map fun x=>rd (bP s p x))++cap).length∧ ∀(q:Nat) (b:AV) (y:Value),((c.args.toList.map fun x=>rd (bP s p x))++cap)[q]? =some b→((c.args.toList.map a.eval)++ys)[q]? =some y→Cz E b y:=by
  intro cap ys hl hq;refine⟨by simp[hl],fun q b y h1 h2=>?_⟩;by_cases aV:q<(c.args.toList.map a.eval).length
  ·rw[iq aV]at h2;rw[iq (by simpa using aV)]at h1;exact Ec h hp _ c.args.toList q b y h1 h2
  ·rw[ji (by omega)]at h2;rw[ji (by simp at aV ⊢;omega)]at h1;simp only[List.length_map]at h1 h2;exact hq _ b y h1 h2
 have Yi: ∀{cap:List AV} {ys:List Value},ys.length=cap.length→(∀(q:Nat) (a:AV) (y:Value),cap[q]? =some a→ys[q]? =some y→Cz E a y)→cr ((c.args.toList.map fun x=>rd (bP s p x))++cap)=true→
   ((c.args.toList.map a.eval)++ys).length=((c.args.toList.map fun x=>rd (bP s p x))++cap).length∧ ∀(q:Nat) (b:AV) (y:Value),((c.args.toList.map fun x=>rd (bP s p x))++cap)[q]? =some b→((c.args.toList.map a.eval)++ys)[q]? =some y→Cz E.mask b y:=by
  intro cap ys hl hq hi;obtain⟨h1,h2⟩:=EA hl hq;exact⟨h1,fun q b y h3 h4=>(AH E).bX (h2 q b y h3 h4) (bf hi q b h3)⟩
 split at hk
 ·rename_i k cap dK;rw[dK]at hfv;cases hfe:a.eval f<;>rw[hfe]at hfv<;>cases hfv;rename_i ys hl hq;have hwp: ∀{R:Ending→World→Prop},ov P k→Calls P k ((c.args.toList.map a.eval)++ys).toArray w R→(∀e w',R e w'→ ∃x,e= .returned x∧fb E0 w0 o a K (a.put o.dst x) w'∧(mI C.cl o.op=true→cf w w'))→lz P o a w (fun a' w'=>fb E0 w0 o a K a' w'∧(mI C.cl o.op=true→cf w w')) Q:=by
   intro R zA Cc hR;unfold lz;have eB:(execOp a.eval o).run P w= .ok (.enter k ((c.args.toList.map a.eval)++ys).toArray) w:=by
    have e1:((c.args.toList.map a.eval)++ys).toArray=c.args.map a.eval++ys.toArray:=Array.toList_inj.1 (by simp)
    rw[e1];simp only[execOp,he,resolve,hc,hfe];simp[Deferred.ofValue,Sem.run_bind,invoke,Result.andThen,zA _ w]
   rw[eB];exact Cc.mono fun e w' hr=>hR e w' hr
  have ad3: ∀{r:AV} {g':Nat→Option Ob} {iP:Nat},ys.length=cap.length→(∀(q:Nat) (a:AV) (y:Value),cap[q]? =some a→ys[q]? =some y→Cz E a y)→(∀ρ,cr (((c.args.toList.map fun x=>rd (bP s p x))++cap).map (Ag C.I ρ s.b))=true)→
    (∀ρ,C.call C.ρ k (((c.args.toList.map fun x=>rd (bP s p x))++cap).map (Ag C.I ρ s.b)) s.g s.nx r g' iP)→K r {s with t:=fY mN s.t,b:=fe mN s.b,up:=lG mN s.up,g:=g',nx:=iP}→
    lz P o a w (fun a' w'=>fb E0 w0 o a K a' w'∧(mI C.cl o.op=true→cf w w')) Q:=by
   intro r g' iP hl hq MB jI hk;obtain⟨N,hN⟩:=Q7 (g':=g') iP;obtain⟨ρ,hρ1,hρ2⟩: ∃ρ,N≤ρ∧sF r<ρ:=⟨N+sF r+1,by omega,by omega⟩;obtain⟨zA,Pe⟩:=hC _ _ _ _ _ _ _ _ (jI ρ);refine hwp zA (Pe (MB ρ) (E.jL (ey E s) ρ) w _ (h.jL ρ) (by simp[hl]) fun q b y h1 h2=>?_) fun e w' hr=>?_
   ·rw[List.getElem?_map]at h1;cases h3:((c.args.toList.map fun x=>rd (bP s p x))++cap)[q]? with
    |none=>rw[h3]at h1;cases h1
    |some b0=>
     rw[h3]at h1;have hbi:=bf (MB ρ) q b (by rw[List.getElem?_map,h3];exact h1)
     cases h1;exact Ul hI h ρ ((EA hl hq).2 q b0 y h3 h2) hbi
   ·obtain⟨x,E',rfl,hG,hE,hs,Pj,YS,Bw⟩:=hr;have hgl: ∀i ob,g' i=some ob→Mc ob<ρ:=fun i ob hi=>by
     have F5:E'.live (.o i):=by
      have:=hG.gx i ob hi
      cases ob with
      |box cs=>exact this.1
      |arr z xs=>exact this.1
      |ow=>exact this.1
      |lp=>exact this.1
     have:=hN i ob ((hG.gl i).1 F5) hi
     omega
    exact⟨x,rfl,⟨x,rfl,r,_,_,hk,h.mL hE hG hs hgl,(P7 h hE hG).bX Pj YS hρ2⟩,fun _=>Bw⟩
  split at hk
  ·cases Bu:C.tD k with
   |true=>
    rw[Bu,aE]at hk;obtain⟨Xm,Xl⟩:=EA hl hq;obtain⟨zA,Cc⟩:=auw C.yl hYl hk h Xm Xl;refine hwp zA Cc fun e w' hr=>?_;obtain⟨x,rfl,r,s',E',kh,hs',hc'⟩:=hr;refine⟨x,rfl,⟨x,rfl,r,s',E',kh,hs',hc'⟩,fun Nj=>?_⟩;exfalso;unfold mI at Nj;rw[he]at Nj;dsimp only at Nj;rw[hc]at Nj
    split at Nj
    ·rename_i k' kh;cases kh;have:k'=k:=by simp only[bP]at dK;injection dK with e1 _;injection e1
     subst this;rw[jh _ Nj]at Bu;cases Bu
    ·cases Nj
   |false=>
   rw[Bu,aM]at hk;cases hi:cr ((c.args.toList.map fun x=>rd (bP s [] x))++cap)with
   |false=>
    rw[hi,aM]at hk;obtain⟨MB,r,g',iP,jI,hk⟩:=hk;exact ad3 hl hq MB jI hk
   |true=>
   rw[hi,aE]at hk;obtain⟨r,g',iP,jI,hk⟩:=hk;obtain⟨zA,Pe⟩:=hC _ _ _ _ _ _ _ _ jI;obtain⟨Xm,Xl⟩:=Yi hl hq hi;refine hwp zA (Pe hi E.mask w _ h.mask Xm Xl) fun e w' hr=>?_;obtain⟨x,E',rfl,hG,hE,hs,Pj,YS,Bw⟩:=hr;exact⟨x,rfl,⟨x,rfl,r,_,_,hk,h.call hE hG hs,(Ez hE hG).bX Pj YS⟩,fun _=>Bw⟩
  ·cases hi:cr ((c.args.toList.map fun x=>rd (bP s p x))++cap)with
   |false=>
    rw[hi,aM]at hk;obtain⟨MB,r,jI,hk⟩:=hk;exact ad3 hl hq MB (jI hp) hk
   |true=>
   rw[hi,aE]at hk;obtain⟨r,jI,hk⟩:=hk;obtain⟨zA,Pe⟩:=hC _ _ _ _ _ _ _ _ (jI hp);obtain⟨Xm,Xl⟩:=Yi hl hq hi;refine hwp zA (Pe hi E.mask w _ h.mask Xm Xl) fun e w' hr=>?_;obtain⟨x,E',rfl,hG,hE,hs,Pj,YS,Bw⟩:=hr;exact⟨x,rfl,⟨x,rfl,r,_,_,hk,h.call hE hG hs,(Ez hE hG).bX Pj YS⟩,fun _=>Bw⟩
 ·rename_i d dK;rw[dK]at hfv;cases hfe:a.eval f<;>rw[hfe]at hfv<;>cases hfv;rename_i F5
  split at hk
  ·obtain⟨Xm,Xl⟩:=EA (cap:=[]) (ys:=[]) rfl (fun q a y hq _=>by simp at hq);simp only[List.append_nil]at Xm Xl;obtain⟨fn,tmps,nX,body,hy,hR⟩:=hYl hk h Xm Xl;unfold lz;have eB:(execOp a.eval o).run P w= .ok (.round (E.m (.s d)) fn tmps nX body) w:=by
    have e1:(c.args.toList.map a.eval).toArray=c.args.map a.eval:=Array.toList_inj.1 (by simp)
    rw[e1]at hy;simp only[execOp,he,resolve,hc,hfe];simp[Deferred.ofValue,Sem.run_bind,invoke,Result.andThen,hy]
   rw[eB];refine hR.mono fun e w' hr=>?_;obtain⟨x,rfl,r,s',E',kh,hs',hc'⟩:=hr;refine⟨x,rfl,⟨x,rfl,r,s',E',kh,hs',hc'⟩,fun Nj=>?_⟩;exfalso;unfold mI at Nj;rw[he]at Nj;dsimp only at Nj;rw[hc]at Nj
   split at Nj
   ·rename_i k' kh;cases kh;simp[bP]at dK
   ·cases Nj
  ·exact hk.elim
 ·rename_i k cs dK;rw[dK]at hfv;cases hfe:a.eval f<;>rw[hfe]at hfv<;>cases hfv;rename_i ys hl kY hq
  split at hk
  ·cases hi:cr (cs++(c.args.toList.map fun x=>rd (bP s [] x)))with
   |false=>rw[hi]at hk;exact hk.elim
   |true=>
   rw[hi,aE]at hk;obtain⟨r,g',iP,jI,hk⟩:=hk;obtain⟨zA,Pe⟩:=hC _ _ _ _ _ _ _ _ jI;have eB:(execOp a.eval o).run P w= .ok (.enter k (ys++(c.args.toList.map a.eval)).toArray) w:=by
    have e1:(ys++(c.args.toList.map a.eval)).toArray=ys.toArray++c.args.map a.eval:=Array.toList_inj.1 (by simp)
    rw[e1];simp only[execOp,he,resolve,hc,hfe];simp[Deferred.ofValue,Sem.run_bind,invoke,Result.andThen,zA _ w]
   unfold lz;rw[eB];refine Calls.mono (Pe hi E.mask w _ h.mask (by simp[hl]) fun q b y h1 h2=>?_) fun e w' hr=>?_
   ·have hbi:=bf hi q b h1
    refine(AH E).bX ?_ hbi;by_cases aV:q<ys.length
    ·rw[iq aV]at h2;rw[iq (by omega)]at h1;exact hq q b y h1 h2
    ·rw[ji (by omega)]at h2;rw[ji (by omega),←hl]at h1;exact Ec h hp _ c.args.toList (q - ys.length) b y h1 h2
   ·obtain⟨x,E',rfl,hG,hE,hs,Pj,YS,Bw⟩:=hr;exact⟨x,rfl,⟨x,rfl,r,_,_,hk,h.call hE hG hs,(Ez hE hG).bX Pj YS⟩,fun _=>Bw⟩
  ·exact hk.elim
 ·exact hk.elim
end Ab
namespace Ab
open Go
variable{P:Program}{L:nK}{E0 E E':Env}{w0 w w':World}{s:St}{a:Act}{p:Path}{C:dx}
def Env.kill(E:Env)(d:Nat):Env:={E with live:=fun k=>k≠ .s d∧E.live k}
theorem Cz.fI{d:Nat}{av:AV}{x:Value}(h:Cz E av x):bX av=true→Cz (E.kill d) av x:=by
 induction h with
 |any x=>exact fun _=> .any _
 |v x=>exact fun _=> .v _
 |mq r A c=>exact fun _=> .mq _ _ _
 |sl r xs z b o c u hp hc hm dw hz hr hi er hu hq ih=>exact fun _=> .sl r xs z b o c u hp hc hm dw hz hr hi er hu (fun q a dc=>ih q a dc (hi q a dc))
 |rH r t=>exact fun _=> .rH _ _
 |gs r t xs=>intro hi;simp[bX]at hi
 |aR r cs off b o u hr hi er hu hq ih=>exact fun _=> .aR r cs off b o u hr hi er hu (fun q a dc=>ih q a dc (hi q a dc))
 |ptr k off hl=>intro hi;exact Cz.ptr (E:=E.kill d) k off ⟨fun e=>by subst e;simp[bX,Key.loc]at hi,hl⟩
 |eW k n hl hn hc hm=>intro hi;exact Cz.eW (E:=E.kill d) k n ⟨fun e=>by subst e;simp[bX,Key.loc]at hi,hl⟩ hn hc hm
 |ca k i off z hl=>intro hi;exact Cz.ca (E:=E.kill d) k i off z ⟨fun e=>by subst e;simp[bX,Key.loc]at hi,hl⟩
 |mp k hl=>intro hi;exact Cz.mp (E:=E.kill d) k ⟨fun e=>by subst e;simp[bX,Key.loc]at hi,hl⟩
 |nM k hl=>intro hi;exact Cz.nM (E:=E.kill d) k ⟨fun e=>by subst e;simp[bX,Key.loc]at hi,hl⟩
 |ar n z xs ys hn hz hl hi hq ih=>exact fun _=> .ar n z xs ys hn hz hl hi fun q a y ha hy=>ih q a y ha hy (hi q a ha)
 |bm f cs ys hl hi hq ih=>exact fun _=> .bm f cs ys hl hi fun q a y ha hy=>ih q a y ha hy (hi q a ha)
 |lB r z xs x hz h ih=>exact fun _=> .lB r z xs x hz (ih rfl)
 |fn f cap ys hl hq ih=>intro hi;exact .fn f cap ys hl fun q a y ha hy=>ih q a y ha hy (bf (by simpa[bX]using hi) q a ha)
 |agg cs ys hl hq ih=>intro hi;exact .agg cs ys hl fun q a y ha hy=>ih q a y ha hy (bf (by simpa[bX]using hi) q a ha)
 |gw cs ys hl hq ih=>intro hi;exact .gw cs ys hl fun q a y ha hy=>ih q a y ha hy (bf (by simpa[bX]using hi) q a ha)
theorem qQ{e d:Nat}(h:bQ e d=false):Key.s e≠ .s d:=fun hh=>by injection hh with hh;subst hh;rw[eE]at h;cases h
theorem Cz.kill{d:Nat}{av:AV}{x:Value}(h:Cz E av x):Cz (E.kill d) (sb d eX eX av) x:=by
 induction h with
 |any x=>exact .any _
 |v x=>exact .v _
 |mq r A c=>exact .mq _ _ _
 |sl r xs z b o c u hp hc hm dw hz hr hi er hu hq ih=>exact Cz.fI (.sl r xs z b o c u hp hc hm dw hz hr hi er hu hq) rfl
 |rH r t=>exact .rH _ _
 |gs r t xs z b c e cells u hc hm h0 dw hz hr hb dg ho er hi hu hq ih=>
  exact Cz.gs (E:=E.kill d) r t xs z b c e cells u hc hm h0 dw hz hr hb dg ho er hi hu (fun q a ha=>(hq q a ha).fI (hi q a ha))
 |aR r cs off b o u hr hi er hu hq ih=>exact Cz.fI (.aR r cs off b o u hr hi er hu hq) rfl
 |ptr k off hl=>
  cases k with
  |o i=>exact Cz.fI (.ptr _ _ hl) rfl
  |r e j=>simp only[sb];cases hb:bQ e d with
   |true=>exact .any _
   |false=>exact Cz.ptr (E:=E.kill d) (.r e j) off ⟨(fun hh=>by cases hh),hl⟩
  |s e=>simp only[sb];cases hb:bQ e d with
   |true=>exact .any _
   |false=>exact Cz.ptr (E:=E.kill d) (.s e) off ⟨qQ hb,hl⟩
 |eW k m hl hn hc hm=>
  cases k with
  |o i=>exact Cz.fI (.eW _ _ hl hn hc hm) rfl
  |r e j=>simp only[sb];cases hb:bQ e d with
   |true=>exact .any _
   |false=>exact Cz.eW (E:=E.kill d) (.r e j) m ⟨(fun hh=>by cases hh),hl⟩ hn hc hm
  |s e=>simp only[sb];cases hb:bQ e d with
   |true=>exact .any _
   |false=>exact Cz.eW (E:=E.kill d) (.s e) m ⟨qQ hb,hl⟩ hn hc hm
 |ca k i off z hl=>
  cases k with
  |o i=>exact Cz.fI (.ca _ _ _ _ hl) rfl
  |r e j=>simp only[sb];cases hb:bQ e d with
   |true=>exact .any _
   |false=>exact Cz.ca (E:=E.kill d) (.r e j) i off z ⟨(fun hh=>by cases hh),hl⟩
  |s e=>simp only[sb];cases hb:bQ e d with
   |true=>exact .any _
   |false=>exact Cz.ca (E:=E.kill d) (.s e) i off z ⟨qQ hb,hl⟩
 |mp k hl=>
  cases k with
  |o i=>exact Cz.fI (.mp _ hl) rfl
  |r e j=>simp only[sb];cases hb:bQ e d with
   |true=>exact .any _
   |false=>exact Cz.mp (E:=E.kill d) (.r e j) ⟨(fun hh=>by cases hh),hl⟩
  |s e=>simp only[sb];cases hb:bQ e d with
   |true=>exact .any _
   |false=>exact Cz.mp (E:=E.kill d) (.s e) ⟨qQ hb,hl⟩
 |nM k hl=>
  cases k with
  |o i=>exact Cz.fI (.nM _ hl) rfl
  |r e j=>simp only[sb];cases hb:bQ e d with
   |true=>exact .any _
   |false=>exact Cz.nM (E:=E.kill d) (.r e j) ⟨(fun hh=>by cases hh),hl⟩
  |s e=>simp only[sb];cases hb:bQ e d with
   |true=>exact .any _
   |false=>exact Cz.nM (E:=E.kill d) (.s e) ⟨qQ hb,hl⟩
 |ar n z xs ys hn hz hl hi hq ih=>exact Cz.fI (.ar n z xs ys hn hz hl hi hq) rfl
 |bm f cs ys hl hi hq ih=>exact Cz.fI (.bm f cs ys hl hi hq) rfl
 |lB r z xs x hz h ih=>exact Cz.fI (.lB r z xs x hz h) rfl
 |fn f cap ys hl hq ih=>
  simp only[sb];exact .fn f _ ys (by rw[cZ];exact hl) fun q a y ha hy=>by
   rw[iA]at ha;cases hc:cap[q]? with
   |none=>rw[hc]at ha;simp at ha
   |some a'=>rw[hc]at ha;simp at ha;subst ha;exact ih q a' y hc hy
 |agg cs ys hl hq ih=>
  simp only[sb];exact .agg _ ys (by rw[cZ];exact hl) fun q a y ha hy=>by
   rw[iA]at ha;cases hc:cs[q]? with
   |none=>rw[hc]at ha;simp at ha
   |some a'=>rw[hc]at ha;simp at ha;subst ha;exact ih q a' y hc hy
 |gw cs ys hl hq ih=>
  simp only[sb];exact .gw _ ys (by rw[cZ];exact hl) fun q a y ha hy=>by
   rw[iA]at ha;cases hc:cs[q]? with
   |none=>rw[hc]at ha;simp at ha
   |some a'=>rw[hc]at ha;simp at ha;subst ha;exact ih q a' y hc hy
theorem Fa{d:Nat}{t:List (Nat×AV)}{T:Array Value}(h: ∀e x,look e t=some x→Cz E x (T.getD e undef)): ∀e x,look e (GV d eX eX t)=some x→Cz (E.kill d) x (T.getD e undef):=by
 intro e x hd;rw[oR]at hd;cases hh:look e t with
 |none=>rw[hh]at hd;simp at hd
 |some y=>rw[hh]at hd;simp at hd;subst hd;exact(h e y hh).kill
theorem jP.kill{d:Nat}: ∀{aa:List Act} {fs:List Fr},jP E aa fs→jP (E.kill d) aa (Qd d eX eX fs)
 |[],[],_=>trivial
 |a::aa,f::fs,h=>⟨⟨h.1.1,Fa h.1.2⟩,jP.kill h.2⟩
 |[],_::_,h=>h.elim
 |_::_,[],h=>h.elim
theorem bM.kill{d:Nat}{k:Key}{ob:Ob}(hk:k≠ .s d)(h:bM E k ob):bM (E.kill d) k (NV d eX eX ob):=by
 cases ob with
 |box cs=>
  obtain⟨g1,c,e,g2,g3,g4,g5,g6⟩:=h;refine⟨⟨hk,g1⟩,c,e,g2,g3,g4,by rw[cZ];exact g5,fun q a x ha hx=>?_⟩;rw[iA]at ha;cases hc:cs[q]? with
  |none=>rw[hc]at ha;simp at ha
  |some a'=>rw[hc]at ha;simp at ha;subst ha;exact(g6 q a' x hc hx).kill
 |arr z xs=>
  obtain⟨g1,gl,gz,gz',gm,c,e,g2,g3,g4,g5,g6,g7⟩:=h;exact⟨⟨hk,g1⟩,gl,gz,gz',gm,c,e,g2,g3,g4,g5,g6,fun q a x ha hx=>(g7 q a x ha hx).fI (g6 q a ha)⟩
 |ow p l xs=>exact xH (fun i hi=>⟨⟨Key.Ur _ _ _,hi⟩,rfl,rfl⟩) (fun g=>⟨hk,g⟩) rfl rfl (fun ho=>⟨ho,rfl,fun o hh=>hh⟩) (fun a x hi hc=>hc.fI hi) (fun b hb _=>⟨hb,rfl,fun _=>Iff.rfl,rfl⟩) h
 |lp n t ps nX body st=>
  obtain⟨g1,g3,g4,rec,g2,g5,g6,g7,g8,g9,Xz,gq⟩:=h;exact⟨⟨hk,g1⟩,g3,g4,rec,g2,g5,g6,g7,g8,g9,Xz,Fa gq⟩
theorem bq.kill(h:bq E0 E w0 w s a)(d:Nat):bq E0 (E.kill d) w0 w (s.sb d eX eX) a:=by
 have hF: ∀(o:Nat) (g:Bool),eX o≠ .v (.bool g):=fun o g hh=>by cases hh
 refine⟨h.heap,⟨h.wf.aI,h.wf.own,h.wf.fz⟩,h.Kp,h.up.kill,h.sz,?_,?_,?_,?_,?_,?_,⟨h.ext.size,h.ext.aI,fun k hk=>?_,h.ext.bw⟩,h.wI,h.same,h.gk,h.nl,h.ng,h.lo⟩
 ·intro e x he hp;have nR:look e (GV d eX eX s.t)=some x:=he
  rw[oR]at nR;cases hh:look e s.t with
  |none=>rw[hh]at nR;simp at nR
  |some y=>rw[hh]at nR;simp at nR;subst nR;exact(h.tm e y hh ((qL d eX eX hF hF).1 hp)).kill
 ·intro e q he hp;exact h.cu e q he (fun hh=>hp ((qL d eX eX hF hF).2 hh))
 ·intro e ob he;have nR:look e (Ai d eX eX (del d s.b))=some ob:=he
  rw[gn,gp]at nR;by_cases Y2:d=e
  ·rw[if_pos Y2]at nR;simp at nR
  ·rw[if_neg Y2]at nR;cases hh:look e s.b with
   |none=>rw[hh]at nR;simp at nR
   |some y=>rw[hh]at nR;simp at nR;subst nR;exact(h.bx e y hh).kill (fun hh=>Y2 (by injection hh with hh;exact hh.symm))
 ·intro e he;obtain⟨ob,ho⟩:=h.lv e he.2;refine⟨NV d eX eX ob,?_⟩;show look e (Ai d eX eX (del d s.b))=_;rw[gn,gp,if_neg (fun hh=>he.1 (by rw[hh])),ho];rfl
 ·intro i ob hi;have h1:=(h.gx i ob hi).kill (d:=d) (fun hh=>by cases hh)
  have SP:=h.gk i ob hi
  cases ob with
  |arr z xs=>exact h1
  |lp=>exact SP.elim
  |ow=>exact SP.elim
  |box cs=>
   obtain⟨g1,c,e,g2,g3,g4,g5,g6⟩:=h1;refine⟨g1,c,e,g2,g3,g4,by rw[g5,cZ],fun q a x ha hx=>?_⟩;have:=g6 q (Ab.sb d eX eX a) x (by rw[iA,ha];rfl) hx
   rwa [Kb (SP q a ha)]at this
 ·intro i;exact⟨fun hh=>(h.gl i).1 hh.2,fun hh=>⟨(fun e=>by cases e),(h.gl i).2 hh⟩⟩
 ·obtain⟨k1,k2,k3⟩:=h.ext.live k hk;exact⟨⟨fun e=>by subst e;exact h.nl (.s d) rfl hk,k1⟩,k2,k3⟩
def Env.cI(E:Env)(d b:Nat)(n:Nat×Nat)(h':Array Obj):Env:=
 {E with h:=h',m:=fun q=>if q= .s d then b else E.m q,len:=fun q=>if q= .s d then n else E.len q,live:=fun q=>q= .s d∨E.live q,own:=fun b'=>if b'=b then .key (.s d)else E.own b'}
structure zS(E:Env)(d b:Nat)(h':Array Obj):Prop where
 nl: ¬E.live (.s d)
 at':b=E.h.size∨(b<E.h.size∧E.own b= .key (.s d)∧ ∀o,¬E.aI b o)
 rest: ∀b',b'<E.h.size→b'≠b→h'[b']? =E.h[b']?
 size:E.h.size≤h'.size
 lt:b<h'.size
theorem zS.ext{d b:Nat}{n:Nat×Nat}{h':Array Obj}(k:zS E d b h')(hw:Wf E):Ext (fun o=>o= .key (.s d)) E (E.cI d b n h'):=by
 have hb: ∀b' o,E.aI b' o→b'≠b:=fun b' o hs e=>by
  subst e;rcases k.at' with e|⟨_,_,h3⟩
  ·have:=hw.aI b' o hs;omega
  ·exact h3 o hs
 refine⟨k.size,fun b' o hs=>⟨hs,?_,rfl⟩,fun q hq=>⟨.inr hq,?_,?_⟩,fun b' dM hn=>?_⟩
 ·simp only[Env.cI,aO];rw[k.rest b' (hw.aI b' o hs) (hb b' o hs)]
 ·simp only[Env.cI];rw[if_neg (fun e=>by subst e;exact k.nl hq)]
 ·simp only[Env.cI];rw[if_neg (fun e=>by subst e;exact k.nl hq)]
 ·have ct:b'≠b:=fun e=>by
   subst e;rcases k.at' with e|⟨_,h2,_⟩
   ·omega
   ·exact hn h2
  exact⟨by simp only[Env.cI];rw[if_neg ct],k.rest b' dM ct,fun _=>Iff.rfl,rfl⟩
theorem zS.wf{d b:Nat}{n:Nat×Nat}{h':Array Obj}(k:zS E d b h')(hw:Wf E):Wf (E.cI d b n h'):=
 ⟨fun b' o hs=>Nat.lt_of_lt_of_le (hw.aI b' o hs) k.size,fun b' dM=>by
  simp only[Env.cI]at dM;by_cases hh:b'=b
  ·subst hh;exact k.lt
  ·rw[if_neg hh]at dM;exact Nat.lt_of_lt_of_le (hw.own b' dM) k.size,fun b' o hs hr=>by
  have ct:b'≠b:=fun e=>by
   subst e;rcases k.at' with e|⟨_,_,h3⟩
   ·have:=hw.aI b' o hs;omega
   ·exact h3 o hs
  obtain⟨c,e,hc⟩:=hw.fz b' o hs hr;exact⟨c,e,by simp only[Env.cI];rw[k.rest b' (hw.aI b' o hs) ct];exact hc⟩⟩
theorem zS.cz{d b:Nat}{n:Nat×Nat}{h':Array Obj}(k:zS E d b h')(hw:Wf E){av:AV}{x:Value}(h:Cz E av x):Cz (E.cI d b n h') av x:=by
 have:=(h.ext (k.ext (n:=n) hw) hw (fun _=>false) (fX _)).1
 rwa [lb (fun _=>rfl)]at this
theorem zS.nest{d b:Nat}{n:Nat×Nat}{h':Array Obj}(k:zS E d b h')(hw:Wf E){e:Nat}: ∀b',E.own b'= .tok (.n e)→b'<E.h.size→(E.cI d b n h').own b'= .tok (.n e)∧(E.cI d b n h').h[b']? =E.h[b']? ∧(∀o,(E.cI d b n h').aI b' o↔E.aI b' o)∧(E.cI d b n h').dN b'=E.dN b':=fun b' ho dM=>by
 obtain⟨q1,q2,q3,q4⟩:=(k.ext (n:=n) hw).bw b' dM (by rw[ho];simp);exact⟨q1.trans ho,q2,q3,q4⟩
theorem bq.cI(h:bq E0 E w0 w s a){d b:Nat}{n:Nat×Nat}(hd:look d s.b=none)(k:zS E d b w'.heap)(FZ:jk w w'){ob:Ob}(qf:bM (E.cI d b n w'.heap) (.s d) ob):bq E0 (E.cI d b n w'.heap) w0 w' {s with b:=cT d ob s.b} a:=by
 have hx:=h.xZ (T:=fun _=>false) (k.ext (n:=n) h.wf) (fX _) (Mb _) (k.wf h.wf) (w':=w') rfl FZ
  (fun b' hb hc=>by have:=h.wI b' hb;rw[hc]at this;simp[Own.loc,Key.loc]at this) (cT d ob s.b) s.g s.nx
  (fun d' DF h'=>by
   rw[aF]at h';by_cases rF:d=d'
   ·rw[if_pos rF]at h';cases h';subst rF;exact .inr qf
   ·rw[if_neg rF]at h';exact .inl ⟨DF,h',(oI (fun _=>rfl) DF).symm,(fun hf=>rF (by injection hf with hf;injection hf with hf;exact hf.symm)),fun hf=>by cases hf⟩)
  (fun d' hl=>by
   rw[aF];by_cases rF:d=d'
   ·exact⟨ob,by rw[if_pos rF]⟩
   ·rw[if_neg rF];rcases hl with hl|hl
    ·exact absurd (by injection hl with hl;exact hl.symm) rF
    ·exact h.lv d' hl)
  (fun i DF h'=> .inl ⟨h',fun hf=>by cases hf⟩)
  (fun i=>⟨fun hh=>by rcases hh with hh|hh;cases hh;exact(h.gl i).1 hh,fun hh=> .inr ((h.gl i).2 hh)⟩) h.gk (fun b'=>by
   have:=h.ng b'
   simp only[Env.cI]
   split
   ·simp[du,Own.du,Key.loc]
   ·exact this)
 have:fY (fun _=>false) s.t=s.t:=lX (fun _=>rfl) _
 rw[this,qj (fun _=>rfl)]at hx;exact hx
structure Grown(P:Program)(w:World)(t ty z:Nat)(x y:Value)(wI:Array Value)(b n:Nat)(ns:List Value):Prop where
 ex: ∃(w':World) (b' c' e':Nat) (cells:Array Value),(Builtin.append_ #[t,t] ty #[x,y]).run P w= .ok (.slice (some ⟨b',0,none⟩) (n+1) c') w'∧jk w w'∧n+1≤c'∧c'≤maxLen∧cells.size=c'*z∧
  (∀q,q<n*z→cells[q]? =wI[q]?)∧(∀q,q<z→cells[n*z+q]? =ns[q]?)∧w'.heap[b']? =some (.cells cells e' (0,0))∧b'<w'.heap.size∧w.heap.size≤w'.heap.size∧(∀b1,b1<w.heap.size→b1≠b'→w'.heap[b1]? =w.heap[b1]?)∧(b'=w.heap.size∨b'=b)
theorem SS{t ty e:Nat}{i:TypeInfo}{zv:Value}(hu:P.underlying t=some (.slice e))(hi:P.info? e=some i)(hz:i.zero=some zv)(Ca:zv.cells.size=i.size)(b2 o2 c2 b:Nat){ns:List Value}(n1:ns.length=i.size)
  (n2: ∀(j:Nat) (u:Value),ns[j]? =some u→w.cell? ((⟨b2,o2,none⟩:Addr).add j)=some u)(hb:i.bytes≤70368744177664)(wV: ∀u∈ns,u.oneCell'=true):
  Grown P w t ty i.size (.slice none 0 0) (.slice (some ⟨b2,o2,none⟩) 1 c2) #[] b 0 ns:=by
 have eB:=run_append_nil (P:=P) w t ty e i zv hu hi hz ⟨b2,o2,none⟩ 1 c2 ns (by omega) n2 (by omega) (by omega) (by omega)
 refine⟨_,w.heap.size,_,e,ns.toArray++Builtin.zeroCells zv.cells (grownCap w 1 0 e - 1),eB,⟨rfl,rfl,rfl⟩,grownCap_ge w 1 0 e,grownCap_le_maxLen w 1 0 e (by unfold maxLen;omega),?_,fun q hq=>by omega,fun q hq=>?_,?_,?_,?_,fun b1 ye ct=>?_,.inl rfl⟩
 ·simp only[Array.size_append,qx,Ca];simp only[List.size_toArray,n1];have:=grownCap_ge w 1 0 e
  generalize grownCap w 1 0 e=cap at this ⊢;rw[Nat.sub_mul];have:i.size≤cap*i.size:=Nat.le_mul_of_pos_left _ (by omega)
  omega
 ·rw[Nat.zero_mul,Nat.zero_add,Array.getElem?_append_left (by simpa[n1]using hq)];simp
 ·show(w.heap.push _)[w.heap.size]? =_;simp
 ·show _<(w.heap.push _).size;simp
 ·show _≤(w.heap.push _).size;simp
 ·show(w.heap.push _)[b1]? =_;rw[Array.getElem?_push,if_neg (by omega)]
theorem Pl{t ty e:Nat}{i:TypeInfo}{zv:Value}(hu:P.underlying t=some (.slice e))(hi:P.info? e=some i)(hz:i.zero=some zv)(Ca:zv.cells.size=i.size)(h1:1≤i.size){b n c e0:Nat}{cells:Array Value}(QL:w.heap[b]? =some (.cells cells e0 (0,0)))
  (dg:cells.size=c*i.size)(hn:n≤c)(hc:c≤maxLen)(b2 o2 c2:Nat){ns:List Value}(n1:ns.length=i.size)
  (n2: ∀(j:Nat) (u:Value),ns[j]? =some u→w.cell? ((⟨b2,o2,none⟩:Addr).add j)=some u)(hb:(n+1)*i.bytes≤70368744177664)(YU:n+1≤70368744177664)(wV: ∀u∈ns,u.oneCell'=true):
  Grown P w t ty i.size (.slice (some ⟨b,0,none⟩) n c) (.slice (some ⟨b2,o2,none⟩) 1 c2) cells b n ns:=by
 have aV:b<w.heap.size:=(Array.getElem?_eq_some_iff.1 QL).1
 have hnz:n*i.size≤c*i.size:=Nat.mul_le_mul_right _ hn
 by_cases tG:n+1≤c
 ·have hmul:(n+1)*i.size≤c*i.size:=Nat.mul_le_mul_right _ tG
  rw[Nat.add_mul]at hmul;obtain⟨w',g1,g2,g3⟩:=gT P b (n*i.size) e0 ns 0 w cells QL (by omega) (fun v hv=>by rw[uj];exact wV v hv);obtain⟨f1,f2⟩:=mF (n*i.size) ns 0 cells (by omega);generalize (ns.zipIdx.foldl (fun cs (x,j)=>cs.setIfInBounds (n*i.size+j) x) cells)=F at g2 f1 f2;have eB:(Builtin.append_ #[t,t] ty #[.slice (some ⟨b,0,none⟩) n c,.slice (some ⟨b2,o2,none⟩) 1 c2]).run P w= .ok (.slice (some ⟨b,0,none⟩) (n+1) c) w':=by
   have h2: ∀w,(underlying t).run P w= .ok (.slice e) w:=eV hu
   have h3: ∀w,(Go.sizeOf e).run P w= .ok i.size w:=fun w=>j0 hi w
   have hf:=run_firstCells_some (P:=P) w i.size 1 ⟨b2,o2,none⟩ 1 c2 ns (by omega) n2
   simp[Builtin.append_,Sem.run_bind,h2,h3,Result.andThen,Builtin.lenOf,tG,hf,ew,g1]
  refine⟨w',b,c,e0,F,eB,g3,tG,hc,by rw[f1];exact dg,fun q hq=>?_,fun q hq=>?_,by rw[g2];simp[aV],by rw[g2];simpa using aV,by rw[g2];simp,fun b1 ye ct=>by rw[g2,Array.getElem?_setIfInBounds_ne (Ne.symm ct)],.inr rfl⟩
  ·rw[f2,if_neg (by omega)]
  ·rw[f2,if_pos ⟨by omega,by omega⟩];congr 1;omega
 ·have hold: ∀(j:Nat) (v:Value),(cells.toList.take (n*i.size))[j]? =some v→w.cell? ((⟨b,0,none⟩:Addr).add j)=some v:=fun j v hj=>by
   have hjl:=(bh.1 hj).1
   rw[List.getElem?_take,if_pos (by simp at hjl;omega)]at hj;rw[ew,kq,aO,QL];simpa using hj
  have eB:=run_append_grow (P:=P) w t ty e i zv hu hi hz ⟨b,0,none⟩ n c (cells.toList.take (n*i.size)) (by simp;omega) hold ⟨b2,o2,none⟩ 1 c2 ns (by omega) n2 (by omega) (by omega) (growslice_fits (by omega) (by omega))
  refine⟨_,w.heap.size,_,e,(cells.toList.take (n*i.size)).toArray++ns.toArray++Builtin.zeroCells zv.cells (grownCap w (n+1) c e - (n+1)),eB,⟨rfl,rfl,rfl⟩,grownCap_ge w _ c e,grownCap_le_maxLen w _ c e (by unfold maxLen;omega),?_,fun q hq=>?_,fun q hq=>?_,?_,?_,?_,fun b1 ye ct=>?_,.inl rfl⟩
  ·simp only[Array.size_append,qx,Ca];simp only[List.size_toArray,n1,List.length_take,Array.length_toList,dg];have hg:=grownCap_ge w (n+1) c e
   generalize grownCap w (n+1) c e=cap at hg ⊢;rw[Nat.sub_mul,Nat.add_mul];have:(n+1)*i.size≤cap*i.size:=Nat.mul_le_mul_right _ hg
   rw[Nat.add_mul]at this;omega
  ·rw[Array.getElem?_append_left (by simp;omega),Array.getElem?_append_left (by simp;omega)];simp only[List.getElem?_toArray,List.getElem?_take,Array.getElem?_toList];rw[if_pos hq]
  ·rw[Array.getElem?_append_left (by simp;omega),Array.getElem?_append_right (by simp;omega)];simp only[List.size_toArray,List.length_take,Array.length_toList,List.getElem?_toArray];congr 1;omega
  ·show(w.heap.push _)[w.heap.size]? =_;simp
  ·show _<(w.heap.push _).size;simp
  ·show _≤(w.heap.push _).size;simp
  ·show(w.heap.push _)[b1]? =_;rw[Array.getElem?_push,if_neg (by omega)]
theorem Bj: ∀{cs:List AV},GJ cs=true→ ∀(q:Nat) (a:AV),cs[q]? =some a→ ∃x,a= .v x
 |[],_,q,a,h=>by simp at h
 |b::r,h,q,a,hq=>by
  simp only[GJ,Bool.and_eq_true]at h;cases q with
  |zero=>simp at hq;subst hq;cases b<;>first|exact⟨_,rfl⟩|(simp[isV]at h)
  |succ q=>exact Bj h.2 q a (by simpa using hq)
theorem AD(r:Nat): ∀(cs:List AV) (q:Nat),(cq r cs)[q]? =(cs[q]?).map (eD r)
 |[],q=>by simp[cq]
 |a::cs,q=>by cases q<;>simp[cq,AD r cs]
theorem vD(r:Nat): ∀(cs:List AV),(cq r cs).length=cs.length
 |[]=>rfl
 |a::cs=>by simp[cq,vD r cs]
theorem th{r:Nat}{x:Value}:eD r (.v x)= .v x∨(eD r (.v x)= .sl r []∧x= .slice none 0 0):=by
 unfold eD
 split
 ·rename_i h;cases h;exact .inr ⟨rfl,rfl⟩
 ·exact .inl rfl
theorem V1{d b z:Nat}{n:Nat×Nat}{h':Array Obj}(k:zS E d b h')(hw:Wf E){xs:List (List AV)}{u0:Nat→Value}{r:Nat}{cs:List AV}{ns:List Value}{cells:Array Value}{e0:Nat}(dw:0<z)(hz: ∀l∈xs,l.length=z)
  (kY: ∀(q:Nat) (a:AV),xs.flatten[q]? =some a→bX a=true)(hu0: ∀(q:Nat) (a:AV),xs.flatten[q]? =some a→Cz E a (u0 q))(hn0:Hs E (.n d) z none xs u0)(jN:GJ cs=true)(jh:cs.length=z)(hns:ns.length=z)
  (Ir: ∀(q:Nat) (a:AV) (y:Value),cs[q]? =some a→ns[q]? =some y→Cz E a y)(hlen:n.1=xs.length+1)(Pk:n.1≤n.2)(aiA:n.2≤maxLen)(hb:h'[b]? =some (.cells cells e0 (0,0)))(dg:cells.size=n.2*z)
  (hold: ∀(q:Nat) (a:AV),xs.flatten[q]? =some a→cells[q]? =some (u0 q))(zy: ∀q,q<z→cells[xs.length*z+q]? =ns[q]?):bM (E.cI d b n h') (.s d) (.ow (.sl z) none (xs++[cq r cs])):=by
 have fS:=aB hz
 have aiI:(E.cI d b n h').m (.s d)=b:=by simp[Env.cI]
 have qg: ∀(q:Nat) (a:AV),(xs++[cq r cs]).flatten[q]? =some a→(q<xs.length*z∧xs.flatten[q]? =some a)∨(∃j x,q=xs.length*z+j∧j<z∧cs[j]? =some (.v x)∧ns[j]? =some x∧a=eD r (.v x)):=by
  intro q a ha;rw[List.flatten_append]at ha;by_cases aV:q<xs.flatten.length
  ·rw[iq aV]at ha;exact .inl ⟨by omega,ha⟩
  ·rw[ji (by omega)]at ha;simp only[List.flatten_cons,List.flatten_nil,List.append_nil,AD]at ha;cases hc:cs[q - xs.flatten.length]? with
   |none=>rw[hc]at ha;cases ha
   |some b0=>
    rw[hc]at ha;cases ha;obtain⟨x,rfl⟩:=Bj jN _ _ hc;have hj:q - xs.flatten.length<z:=by rw[←jh];exact(bh.1 hc).1
    have hy:ns[q - xs.flatten.length]? =some ns[q - xs.flatten.length]:=by simp[hns,hj]
    have h1:=Ir _ _ _ hc hy
    refine .inr ⟨q - xs.flatten.length,x,by omega,hj,hc,?_,rfl⟩;rw[hy];cases h1;rfl
 let u:Nat→Value:=fun q=>if q<xs.length*z then u0 q else ns[q - xs.length*z]?.getD undef;have DA: ∀q,q<xs.length*z→u q=u0 q:=fun q hq=>by simp only[u];rw[if_pos hq]
 have T4: ∀j x,ns[j]? =some x→u (xs.length*z+j)=x:=fun j x hx=>by simp only[u];rw[if_neg (by omega),Nat.add_sub_cancel_left,hx];rfl
 refine⟨.inl rfl,by rw[aiI];simp[Env.cI],fun o hs=>?_,fun q a ha=>?_,u,⟨dw,fun l hl=>?_,?_,?_,?_,cells,e0,?_,?_,fun q a ha=>?_⟩,fun q a ha=>?_,?_,?_⟩
 ·rw[aiI]at hs;rcases k.at' with e|⟨_,_,h3⟩
  ·have:=hw.aI b o hs;omega
  ·exact h3 o hs
 ·rcases qg q a ha with⟨_,h1⟩|⟨j,x,_,_,_,_,rfl⟩
  ·exact kY q a h1
  ·rcases th (r:=r) (x:=x)with h|⟨h,_⟩<;>rw[h]<;>rfl
 ·rcases List.mem_append.1 hl with h|h
  ·exact hz l h
  ·simp at h;subst h;rw[vD];exact jh
 ·simp[Env.cI,hlen]
 ·simpa[Env.cI]using Pk
 ·simpa[Env.cI]using aiA
 ·rw[aiI];exact hb
 ·simpa[Env.cI]using dg
 ·rcases qg q a ha with⟨h0,h1⟩|⟨j,x,rfl,hj,_,h3,rfl⟩
  ·rw[DA q h0];exact hold q a h1
  ·rw[T4 j x h3,zy j hj,h3]
 ·rcases qg q a ha with⟨h0,h1⟩|⟨j,x,rfl,hj,_,h3,rfl⟩
  ·rw[DA q h0];exact k.cz hw (hu0 q a h1)
  ·rw[T4 j x h3];rcases th (r:=r) (x:=x)with h|⟨h,e⟩
   ·rw[h];exact .v _
   ·rw[h,e];exact .mq _ _ _
 ·intro q r' ys hq hl;rcases qg q _ hq with⟨h0,h1⟩|⟨j,x,rfl,hj,_,h3,h4⟩
  ·rw[DA q h0];exact(hn0.1 q r' ys h1 (fun hh=>hh)).mono (k.nest hw)
  ·rcases th (r:=r) (x:=x)with h|⟨h,e⟩
   ·rw[h]at h4;cases h4
   ·rw[h]at h4;cases h4;exact .inl ⟨rfl,(T4 j x h3).trans e⟩
 ·intro q q' r1 r2 ys BA b1 hq vG _ _ ct ye;rcases qg q _ hq with⟨h0,h1⟩|⟨j,x,rfl,hj,_,h3,h4⟩
  ·rcases qg q' _ vG with⟨KU,TC⟩|⟨j,x,rfl,hj,_,h3,h4⟩
   ·rw[DA q h0]at ye;rw[DA q' KU];exact hn0.2 q q' r1 r2 ys BA b1 h1 TC (fun hh=>hh) (fun hh=>hh) ct ye
   ·rw[T4 j x h3];rcases th (r:=r) (x:=x)with h|⟨h,e⟩
    ·rw[h]at h4;cases h4
    ·rw[e];intro hh;cases hh
  ·rw[T4 j x h3]at ye;rcases th (r:=r) (x:=x)with h|⟨h,e⟩
   ·rw[h]at h4;cases h4
   ·rw[e]at ye;cases ye
theorem K6(hL:bj P C.L)(hI:C.I=al)(h:bq E0 E w0 w s a){o:Oper}{t t' d:Nat}{x y:Operand}{c:Call}(he:o.op= .call c)(hc:c.callee= .builtin .append)(dt:c.args= #[x,y])(Tx:c.argTypes= #[t,t'])(htt:t'=t){K:bd}{Q:Exit→Act→World→Prop}
  (hk:TS C t d (bP s [] x) (bP s [] y) s K):lz P o a w (fb E0 w0 o a K) Q:=by
 subst htt;unfold TS at hk;generalize C.base+d=d at hk;have hx:=h.ev (p:=[]) trivial x
 have hy:=h.ev (p:=[]) trivial y
 have fin: ∀x' w',(Builtin.append_ #[t',t'] o.type #[a.eval x,a.eval y]).run P w= .ok x' w'→Out E0 w0 a K x' w'→lz P o a w (fb E0 w0 o a K) Q:=fun x' w' g1 g2=>by
  refine cP (x:=x') (w':=w') ?_ g2;simp only[execOp,he,resolve,hc,invoke,builtin,dt,Tx];simp[Sem.run_bind,invoke,builtin,g1,Result.andThen]
 split at hk
 ·rename_i e ti r cs sg QF;obtain⟨hu,Kf,i,i1,i2,i3,zv,i4,i5⟩:=gr hL sg;have Ca:zv.cells.size=i.size:=by rw[i2,←(hL.ok e ti Kf).KV,←i5];simp
  have Tw:=oL QF hy
  cases jN:(GJ cs&&(bQ cs.length ti.size&&(mM 1 ti.size&&oh cs)))with
  |false=>rw[jN]at hk;exact hk.elim
  |true=>
   rw[jN,aE]at hk;simp only[Bool.and_eq_true]at jN;obtain⟨ha1,Y6,ha3,ha4⟩:=jN;have Y6:cs.length=ti.size:=cY Y6
   have ha3:1≤ti.size:=by simpa using ha3
   obtain⟨b2,o2,c2,QB,ns,n1,n2,n3,n4⟩:=Tw.cells h.heap (by simp) (z:=i.size) (fun l hl=>by simp at hl;subst hl;rw[Y6,i2]);have n1:ns.length=i.size:=by rw[n1];simp
   have n4': ∀(q:Nat) (a:AV) (y:Value),cs[q]? =some a→ns[q]? =some y→Cz E a y:=fun q b y h1 h2=>n4 q b y (by simpa using h1) h2
   have wV:=BS (E:=E) (by rw[n1,i2,Y6]) n4' ha4
   have QB:a.eval y= .slice (some ⟨b2,o2,none⟩) 1 c2:=QB
   split at hk
   ·rename_i dK
    split at hk
    ·rename_i eu;obtain⟨k1,zs,n',⟨rfl,Im⟩,hk⟩:=hk;have YW:n'=1:=by rw[←Im,hI];rfl
     subst YW;rw[hI]at k1;obtain⟨k1,_⟩:(0+1)*ti.bytes≤70368744177664∧0+1≤70368744177664:=k1;rw[dK]at hx;have ex:=bN hx
     obtain⟨w',b',c',e',cells,g1,g2,g3,g4,g5,g6,g7,g8,g9,Xz,g11,g12⟩:=(SS (P:=P) (w:=w) (t:=t') (ty:=o.type) hu i1 i4 Ca b2 o2 c2 w.heap.size n1 n2 (by rw[i3];omega) wV).ex;have dM:b'=w.heap.size:=g12.elim id id
     have xR: ¬E.live (.s d):=fun hl=>by obtain⟨ob,ho⟩:=h.lv d hl;rw[eu]at ho;cases ho
     have hA:zS E d b' w'.heap:=⟨xR,.inl (by rw[dM,h.heap]),fun b1 ye ct=>by rw[←h.heap];rw[←h.heap]at ye;exact g11 b1 ye ct,by rw[←h.heap];exact Xz,g9⟩
     have qf:=V1 (n:=(1,c')) hA h.wf (xs:=[]) (u0:=fun _=>undef) (r:=r) (z:=ti.size) (by omega) (by simp) (by simp) (by simp) ⟨fun q r ys hq=>by simp at hq,fun q q' r r' ys BA b hq=>by simp at hq⟩ ha1 Y6 (by rw[n1,i2]) n4' (by simp) (by omega) g4 g8 (by rw[g5,i2]) (by simp) (fun q hq=>by
      have:=g7 q (by rw[i2];exact hq)
      simpa using this)
     refine fin _ w' (by rw[ex,QB];exact g1) ⟨_,_,_,hk,h.cI eu hA g2 qf,?_⟩;have:=Cz.eW (E:=E.cI d b' (1,c') w'.heap) (.s d) 1 (.inl rfl) (by simp[Env.cI]) (by simp[Env.cI];omega) (by simp[Env.cI];exact g4)
     simpa[Env.cI]using this
    ·exact hk.elim
   ·rename_i k n dK;cases QJ:bQ k d with
    |false=>rw[QJ]at hk;exact hk.elim
    |true=>
     rw[QJ,aE]at hk;have:=cY QJ
     subst this
     split at hk
     ·rename_i z xs eu;obtain⟨e0,zs,n',⟨k1,k2,k3,k4⟩,hk⟩:=hk;subst e0;rw[hI]at k1 k2 k3 k4;have k2:xs.length=n:=k2
      have k3:xs++[cq r cs]=zs:=k3
      have k4:zs.length=n':=k4
      obtain⟨k1,k5⟩:(n+1)*ti.bytes≤70368744177664∧n+1≤70368744177664:=k1;subst k2;subst k3;obtain⟨hl,ho,hs,kY,u0,⟨dw,hz,nQ,hle,hm,cl,e1,hb,dg,hu0⟩,hq,ra⟩:=h.bx k _ eu;rw[dK]at hx;cases dD:a.eval x<;>rw[dD]at hx<;>cases hx;have fS:=aB hz
      have aV:E.m (.s k)<E.h.size:=(Array.getElem?_eq_some_iff.1 hb).1
      obtain⟨w',b',c',e',cells,g1,g2,g3,g4,g5,g6,g7,g8,g9,Xz,g11,g12⟩:=(Pl (P:=P) (w:=w) (t:=t') (ty:=o.type) hu i1 i4 Ca (by omega) (b:=E.m (.s k)) (n:=xs.length) (c:=(E.len (.s k)).2) (by rw[h.heap];exact hb) (by rw[dg,i2]) (by omega) hm b2 o2 c2 n1 n2 (by rw[i3];exact k1) k5 wV).ex;have h2:=h.kill k
      have hA:zS (E.kill k) k b' w'.heap:=⟨fun hh=>hh.1 rfl,g12.imp (fun e=>by rw[e,h.heap];rfl) (fun e=>by subst e;exact⟨aV,ho,hs⟩),fun b1 ye ct=>by
        have:=g11 b1 (by rw[h.heap];exact ye) ct
        rw[this,h.heap];rfl,by have:=Xz;rw[h.heap]at this;exact this,g9⟩
      have qf:=V1 (n:=(xs.length+1,c')) hA h2.wf (xs:=xs) (u0:=u0) (r:=r) (z:=ti.size) dw hz kY (fun q b ku=>(hq q b ku).fI (kY q b ku)) (ra.mono fun b hb _=>⟨hb,rfl,fun _=>Iff.rfl,rfl⟩) ha1 Y6 (by rw[n1,i2]) (fun q b y h1 h2=>(n4' q b y h1 h2).fI (n3 q b (by simpa using h1))) rfl g3 g4 g8 (by rw[g5,i2]) (fun q b ku=>by
       have vG:=(bh.1 ku).1
       rw[g6 q (by rw[i2];omega)];exact hu0 q b ku) (fun q hq=>by
       have:=g7 q (by rw[i2];exact hq)
       rw[i2]at this;exact this)
      refine fin _ w' (by rw[dD,QB];exact g1) ⟨_,_,_,hk,h2.cI (by show look k (Ai k eX eX (del k s.b))=none;rw[gn,gp,if_pos rfl];rfl) hA g2 qf,?_⟩;have Im:n'=xs.length+1:=by rw[←k4];simp
      have:=Cz.eW (E:=(E.kill k).cI k b' (xs.length+1,c') w'.heap) (.s k) n' (.inl rfl) (by simp[Env.cI,Im]) (by simp[Env.cI];omega) (by simp[Env.cI];exact g4)
      rw[Im]at this ⊢;simpa[Env.cI]using this
     ·exact hk.elim
   ·exact hk.elim
 ·exact hk.elim
theorem MF{t:Tok}{r:Nat}{ys:List (List AV)}{v:Value}(h:Cz E (.sl r ys) v)(hr:sw E t r ys v):Cz E (.gs r t ys) v:=by
 rcases hr with⟨rfl,rfl⟩|⟨z,b,c,e,cells,rfl,h2,h3,h4,h5,h6,h7,h8,h9,By,Kg⟩
 ·exact .rH _ _
 ·by_cases hy:ys.length=0
  ·have:ys=[]:=List.eq_nil_of_length_eq_zero hy
   subst this;exact .gs r t [] z b c e cells (fun _=>undef) (by simp) h3 h4 h5 h6 h7 h8 h9 By Kg (by simp) (by simp) (by simp)
  ·generalize hv:Value.slice (some ⟨b,0,none⟩) ys.length c=v at h;cases h with
   |mq=>simp at hy
   |sl _ _ z' b' o' c' u hp hc hm dw hz hrg hi hs hu hq=>
    injection hv with e1 e2 e3;injection e1 with e1;injection e1 with e1 e4;subst e1;subst e4;subst e3;have SF:z'=z:=by
     cases ys with
     |nil=>simp at hy
     |cons l rr=>rw[←hz l (by simp),h6 l (by simp)]
    subst SF;exact .gs r t ys z' b c e cells u h2 h3 h4 h5 h6 h7 h8 h9 By Kg hi hu hq
theorem rU{t:Tok}{r:Nat}{ys:List (List AV)}{v:Value}(h:Cz E (.gs r t ys) v):sw E t r ys v:=by
 cases h with
 |rH=>exact .inl ⟨rfl,rfl⟩
 |gs _ _ _ z b c e cells u hc hm h0 dw hz hr hb dg ho er hi hu hq=>exact .inr ⟨z,b,c,e,cells,rfl,hc,hm,h0,dw,hz,hr,hb,dg,ho,er⟩
theorem sY{t:Tok}{r:Nat}{ys:List (List AV)}{v:Value}{b:Nat}(h:sw E t r ys v)(hb:GH v=some b):E.own b= .tok t∧b<E.h.size:=by
 rcases h with⟨_,rfl⟩|⟨z,b',c,e,cells,rfl,h2,h3,h4,h5,h6,h7,h8,h9,By,Kg⟩
 ·cases hb
 ·cases hb;exact⟨By,(Array.getElem?_eq_some_iff.1 h8).1⟩
def Env.ta(E:Env)(b:Nat)(t:Tok):Env:={E with own:=fun b'=>if b'=b then .tok t else E.own b'}
theorem sw.ta{t:Tok}{b:Nat}{t1:Tok}{r:Nat}{ys:List (List AV)}{v:Value}(h:sw E t r ys v)(hb:GH v≠some b):sw (E.ta b t1) t r ys v:=by
 rcases h with h|⟨z,b',c,e,cells,rfl,h2,h3,h4,h5,h6,h7,h8,h9,By,Kg⟩
 ·exact .inl h
 ·exact .inr ⟨z,b',c,e,cells,rfl,h2,h3,h4,h5,h6,h7,h8,h9,by simp only[Env.ta];rw[if_neg (fun e=>hb (by rw[←e];rfl))];exact By,Kg⟩
theorem sw.own{t:Tok}{b:Nat}{t1:Tok}{r:Nat}{ys:List (List AV)}{v:Value}(h:sw E t r ys v)(hb:GH v=some b):sw (E.ta b t1) t1 r ys v:=by
 rcases h with h|⟨z,b',c,e,cells,rfl,h2,h3,h4,h5,h6,h7,h8,h9,By,Kg⟩
 ·exact .inl h
 ·exact .inr ⟨z,b',c,e,cells,rfl,h2,h3,h4,h5,h6,h7,h8,h9,by simp only[Env.ta];rw[if_pos (by injection hb)],Kg⟩
theorem v9{T:Tok→Bool}{b:List (Nat×Ob)}{k d:Nat}{ob x:Ob}(h:look d (cT k ob (fe T b))=some x):(d=k∧x=ob)∨(d≠k∧ ∃y,look d b=some y∧x=yx T y):=by
 rw[aF]at h;by_cases hk:k=d
 ·rw[if_pos hk]at h;cases h;exact .inl ⟨hk.symm,rfl⟩
 ·rw[if_neg hk,cE]at h;cases hh:look d b with
  |none=>rw[hh]at h;cases h
  |some y=>rw[hh]at h;cases h;exact .inr ⟨fun e=>hk e.symm,y,rfl,rfl⟩
theorem B4(h:bq E0 E w0 w s a){k:Nat}{p:Yo}{xs:List (List AV)}(eu:look k s.b=some (.ow p none xs)){u:Nat→Value}(Bu:sS E (.s k) p (E.len (.s k)) E.h[E.m (.s k)]? xs u)
  (Pj: ∀(q:Nat) (a:AV),xs.flatten[q]? =some a→Cz E a (u q))(hn:Hs E (.n k) p.z none xs u){i off r:Nat}{ys:List (List AV)}(hq:xs.flatten[i*p.z+off]? =some (.sl r ys))(t:Tok){p':Yo}(hpz:p'.z=p.z)(abl:sS E (.s k) p' (E.len (.s k)) E.h[E.m (.s k)]? xs u):
  ∃E',bq E0 E' w0 w {s with t:=fY (aX (.n k)) s.t,b:=cT k (.ow p' (some (i,off)) xs) (fe (aX (.n k)) s.b),up:=lG (aX (.n k)) s.up} a∧Cz E' (.gs r t ys) (u (i*p.z+off)):=by
 obtain⟨hl,ho,hs,kY,_⟩:=h.bx k _ eu;have hR:=hn.1 _ r ys hq (fun hh=>hh)
 have SI:=Pj _ _ hq
 cases hb:GH (u (i*p.z+off))with
 |none=>
  have W6:ys=[]∧u (i*p.z+off)= .slice none 0 0:=by
   rcases hR with hR|⟨z,b',c,e,cells,h1,_⟩
   ·exact hR
   ·rw[h1]at hb;cases hb
  have qf:bM E (.s k) (.ow p' (some (i,off)) xs):=⟨hl,ho,hs,kY,u,abl,Pj,by rw[hpz];exact⟨fun q r ys hq _=>hn.1 q r ys hq (fun hh=>hh),fun q q' r r' ys BA b hq vG _ _=>hn.2 q q' r r' ys BA b hq vG (fun hh=>hh) (fun hh=>hh)⟩⟩
  have hx:=h.xZ (T:=aX (.n k)) (Ext.refl (fun _=>False) E) (fun _ hf=>hf.elim) qT h.wf (w':=w) h.heap (jk.refl _) (fun _ _ hf=>hf.elim) (cT k (.ow p' (some (i,off)) xs) (fe (aX (.n k)) s.b)) s.g s.nx
   (fun d ob hd=>by
    rcases v9 hd with⟨rfl,rfl⟩|⟨ct,y,hy,rfl⟩
    ·exact .inr qf
    ·exact .inl ⟨y,hy,rfl,(fun hf=>hf),fun hf=>hf⟩)
   (fun d hl=>by
    rw[aF];by_cases hk:k=d
    ·exact⟨_,by rw[if_pos hk]⟩
    ·rw[if_neg hk,cE];obtain⟨ob,ho⟩:=h.lv d hl;exact⟨_,by rw[ho];rfl⟩)
   (fun j ob hj=> .inl ⟨hj,fun hf=>hf⟩) (fun j=>h.gl j) h.gk h.ng
  exact⟨E,hx,by rw[W6.1,W6.2];exact .rH _ _⟩
 |some b0=>
  obtain⟨qf,aV⟩:=sY hR hb;have hE:Ext (fun o=>o= .tok (.n k)) E (E.ta b0 t):=
   ⟨Nat.le_refl _,fun _ _ h=>⟨h,rfl,rfl⟩,fun _ h=>⟨h,rfl,rfl⟩,fun b hb ct=>⟨by simp only[Env.ta];rw[if_neg (fun e=>by subst e;exact ct qf)],rfl,fun _=>Iff.rfl,rfl⟩⟩
  have hT: ∀t',(fun o=>o=Own.tok (.n k)) (.tok t')→aX (.n k) t'=true:=fun t' ht=>(kB _ _).2 (by cases ht;rfl)
  have cz: ∀{a:AV} {x:Value},bX a=true→Cz E a x→Cz (E.ta b0 t) a x:=fun{a x} hi hc=>(hc.ext hE h.wf _ hT).2 hi
  have kg:E.m (.s k)≠b0:=fun e=>by rw[e,qf]at ho;cases ho
  have atQ:bM (E.ta b0 t) (.s k) (.ow p' (some (i,off)) xs):=by
   refine⟨hl,by simp only[Env.ta];rw[if_neg kg];exact ho,hs,kY,u,(abl.env hq),fun q a ha=>cz (kY q a ha) (Pj q a ha),?_,fun q q' r r' ys BA b hq vG _ _=>hn.2 q q' r r' ys BA b hq vG (fun hh=>hh) (fun hh=>hh)⟩;intro q' r' BA vG rB;rw[hpz]at rB;refine(hn.1 q' r' BA vG (fun hh=>hh)).ta fun e=>?_;exact hn.2 (i*p.z+off) q' r r' ys BA b0 hq vG (fun hh=>hh) (fun hh=>hh) (fun e=>rB e.symm) hb e
  have hx:=h.xZ (T:=aX (.n k)) hE hT (fun o ho=>by subst ho;left;rfl) ⟨h.wf.aI,fun b hb=>by
    simp only[Env.ta]at hb;by_cases e:b=b0
    ·subst e;exact aV
    ·rw[if_neg e]at hb;exact h.wf.own b hb,h.wf.fz⟩ (w':=w) h.heap (jk.refl _)
   (fun b hb hc=>by have:=h.wI b hb;rw[hc]at this;cases this) (cT k (.ow p' (some (i,off)) xs) (fe (aX (.n k)) s.b)) s.g s.nx
   (fun d ob hd=>by
    rcases v9 hd with⟨rfl,rfl⟩|⟨ct,y,hy,rfl⟩
    ·exact .inr atQ
    ·exact .inl ⟨y,hy,rfl,(fun hf=>by cases hf),fun hf=>ct (by injection hf with hf;injection hf)⟩)
   (fun d hl=>by
    rw[aF];by_cases hk:k=d
    ·exact⟨_,by rw[if_pos hk]⟩
    ·rw[if_neg hk,cE];obtain⟨ob,ho⟩:=h.lv d hl;exact⟨_,by rw[ho];rfl⟩)
   (fun j ob hj=> .inl ⟨hj,fun hf=>by cases hf⟩) (fun j=>h.gl j) h.gk (fun b=>by
    have:=h.ng b
    simp only[Env.ta]
    split
    ·exact iG _
    ·exact this)
  exact⟨_,hx,MF (cz rfl SI) (hR.own hb)⟩
theorem Sn(hL:bj P L){t:Nat}{ti:TI}(ht:L t=some ti)(hz:ti.size=1)(tM:ti.agg=false){b o:Nat}{v:Value}(hc:aO w.heap b o=some v):(Instr.loadAt t (.pointer (some ⟨b,o,none⟩))).run P w= .ok v w:=by
 have ig:part ti [.v v] 0=some (.v v):=by unfold part;rw[hz,tM];rfl
 obtain⟨x,h1,h2⟩:=gU (P:=P) (E:=⟨w.heap,fun _ _=>False,fun _=>0,fun _=>0,fun _=>False,fun _=>(0,0),fun _=> .Wd,[]⟩) (w:=w) hL ht (b:=b) (o:=o) ig (fun q a' ha=>by
  cases q with
  |zero=>simp at ha;subst ha;exact⟨v,by simpa using hc,.v _⟩
  |succ q=>simp at ha)
 cases h2;simpa using h1
theorem RC{ti:TI}{e:Nat}(h:ti.k= .slice e):ti.agg=false:=by unfold TI.agg;rw[h]
theorem CE(hL:bj P C.L)(h:bq E0 E w0 w s a){o:Oper}{t d:Nat}{x:Operand}(he:o.op= .load t x){K:bd}(hk:TQ C t d (bP s [] x) s K):M5 P E0 w0 w a o s [] K:=by
 unfold TQ at hk
 split at hk
 ·rename_i ti k i off z rE dK
  split at hk
  ·rename_i e z' xs jH eu;obtain⟨cs,r,ys,⟨e0,e1,e2,e3⟩,hk⟩:=hk;subst e0;have hx:=h.ev (p:=[]) trivial x
   rw[dK]at hx;cases dD:a.eval x<;>rw[dD]at hx<;>cases hx;obtain⟨hl,ho,hs,kY,u,Bu,hq,ra⟩:=h.bx k _ eu;have SO:=Bu
   obtain⟨dw,hz,nQ,hle,hm,c,e1',hb,dg,hu⟩:=Bu;have zB:cs.length=z:=hz cs (jK e1)
   have AQ:off<z:=by rw[←zB];exact(bh.1 e2).1
   have fS:xs.flatten[i*z+off]? =some (.sl r ys):=by rw[dE hz e1 off AQ];exact e2
   obtain⟨E',g1,g2⟩:=B4 h eu SO hq ra (p':= .sl z) fS (.l (C.base+d)) rfl SO;refine⟨_,_,E',hk,g1,fun q=>(j7 (s:=s.rA (aX (.n k))) (s':={s with t:=fY (aX (.n k)) s.t,b:=cT k (.ow (.sl z) (some (i,off)) xs) (fe (aX (.n k)) s.b),up:=lG (aX (.n k)) s.up}) (fun _ _=>rfl)).trans (jr (aX (.n k))),fun _=>⟨u (i*z+off),?_,g2⟩⟩;simp only[execOp,he,dD];simp[Sn (w:=w) hL rE e3 (RC jH) (b:=E.m (.s k)) (o:=i*z+off) (v:=u (i*z+off)) (by simp[aO,h.heap,hb,hu _ _ fS])]
  ·exact hk.elim
 ·exact hk.elim
theorem L6{k z i off r:Nat}{xs xs':List (List AV)}{u:Nat→Value}{ys:List (List AV)}{v:Value}(hn:Hs E (.n k) z (some (i,off)) xs u)(fS: ∀q',xs'.flatten[q']? =if q'=i*z+off then(if q'<xs.flatten.length then some (.sl r ys)else none)else xs.flatten[q']?)
  (hr:sw E' (.n k) r ys v)(hE: ∀b,E.own b= .tok (.n k)→b<E.h.size→E'.own b= .tok (.n k)∧E'.h[b]? =E.h[b]? ∧(∀o,E'.aI b o↔E.aI b o)∧E'.dN b=E.dN b)(hv: ∀b,GH v=some b→E.own b≠ .tok (.n k)):
  Hs E' (.n k) z none xs' (fun q'=>if q'=i*z+off then v else u q'):=by
 have qg: ∀(q' r':Nat) (BA:List (List AV)),xs'.flatten[q']? =some (.sl r' BA)→(q'=i*z+off∧r'=r∧BA=ys)∨(q'≠i*z+off∧xs.flatten[q']? =some (.sl r' BA)):=fun q' r' BA hq=>by
  rw[fS]at hq;by_cases e:q'=i*z+off
  ·rw[if_pos e]at hq
   split at hq
   ·cases hq;exact .inl ⟨e,rfl,rfl⟩
   ·cases hq
  ·rw[if_neg e]at hq;exact .inr ⟨e,hq⟩
 refine⟨fun q' r' BA hq _=>?_,fun q1 q2 r1 r2 ys1 ys2 b hq1 hq2 _ _ ct hb DO=>?_⟩
 ·rcases qg q' r' BA hq with⟨e,rfl,rfl⟩|⟨e,h1⟩
  ·dsimp only;rw[if_pos e];exact hr
  ·dsimp only;rw[if_neg e];exact(hn.1 q' r' BA h1 e).mono hE
 ·dsimp only at hb DO;rcases qg q1 _ _ hq1 with⟨e,rfl,rfl⟩|⟨e,h1⟩
  ·rcases qg q2 _ _ hq2 with⟨e',rfl,rfl⟩|⟨e',TC⟩
   ·exact ct (e.trans e'.symm)
   ·rw[if_pos e]at hb;rw[if_neg e']at DO;exact hv b hb (sY (hn.1 q2 _ _ TC e') DO).1
  ·rcases qg q2 _ _ hq2 with⟨e',rfl,rfl⟩|⟨e',TC⟩
   ·rw[if_neg e]at hb;rw[if_pos e']at DO;exact hv b DO (sY (hn.1 q1 _ _ h1 e) hb).1
   ·rw[if_neg e]at hb;rw[if_neg e']at DO;exact hn.2 q1 q2 r1 r2 ys1 ys2 b h1 TC e e' ct hb DO
theorem E7{l:List AV}{o:Nat}{x:AV}(ho:o<l.length)(q:Nat):(bF l o [x])[q]? =if q=o then some x else l[q]? :=by
 rw[uo (by simp;omega)];by_cases h:q=o
 ·subst h;rw[if_pos ⟨Nat.le_refl _,by simp⟩,if_pos rfl];simp
 ·rw[if_neg h,if_neg (by simp;omega)]
theorem K4(hL:bj P C.L)(hI:C.I=al)(h:bq E0 E w0 w s a){o:Oper}{t:Nat}{x y:Operand}(he:o.op= .store t x y){d i off z r:Nat}{tk:Tok}{ys:List (List AV)}(WX:bP s [] x= .ca (.s d) i off z)(hy0:bP s [] y= .gs r tk ys){ti:TI}(rE:C.L t=some ti)(anE:ti.size=1){K:bd}{Q:Exit→Act→World→Prop}
  (hk:PX C d i off z r tk ys s K):lz P o a w (fb E0 w0 o a K) Q:=by
 unfold PX at hk
 split at hk
 ·rename_i z' j aaA xs eu;obtain⟨QC,e0,zs,⟨e1,e2,cs,e3,e4,e5⟩,hk⟩:=hk;subst e0;subst e1;subst e2;rw[hI]at e5;have e5:xs.set i (bF cs off [.sl r ys])=zs:=e5
  subst e5;have hx:=h.ev (p:=[]) trivial x
  rw[WX]at hx;cases dD:a.eval x<;>rw[dD]at hx<;>cases hx;have hy:=h.ev (p:=[]) trivial y
  rw[hy0]at hy;generalize hav:a.eval y=v at hy;obtain⟨hl,ho,hs,kY,u,⟨dw,hz,nQ,hle,hm,c,e1',hb,dg,hu⟩,hq,ra⟩:=h.bx d _ eu;have fS:=aB hz
  have vR:i<xs.length:=(bh.1 e3).1
  have zB:cs.length=z:=hz cs (jK e3)
  have hmul:i*z+z≤xs.length*z:=by rw[←Nat.succ_mul];exact Nat.mul_le_mul_right _ vR
  have Pk:xs.length*z≤c.size:=by rw[dg,nQ];exact Nat.mul_le_mul_right _ hle
  have hvc:v.cells= #[v]:=by cases hy<;>rfl
  have hv1:sy v=true:=by cases hy<;>rfl
  have WY:tk≠ .n d:=fun e=>by subst e;cases QC
  have h1:=h.dm tk (.n d) QC
  have zw:=hy.dm (t':= .n d) h.wf
  have F4:look d (fe (aX tk) s.b)=some (.ow (.sl z) (some (i,off)) xs):=by rw[cE,eu];rfl
  have ho1:(E.dm tk (.n d)).own ((E.dm tk (.n d)).m (.s d))= .key (.s d):=(sZ (by rw[show(E.dm tk (.n d)).m (.s d)=E.m (.s d)from rfl,ho];simp)).trans ho
  obtain⟨w',g1,g2,g3⟩:=run_store (w:=w) hL rE (b:=E.m (.s d)) (off:=i*z+off) (e:=e1') (c:=c) (v:=v) (by rw[h.heap];exact hb) (by rw[hvc,anE];rfl) (by omega) (fun x hx=>by rw[hvc]at hx;simp at hx;rw[hx];exact hv1);have Xi:(v.cells.toList.zipIdx.foldl (fun cs (x,j)=>cs.setIfInBounds (i*z+off+j) x) c)=c.setIfInBounds (i*z+off) v:=by rw[hvc];rfl
  rw[Xi]at g2;have hE:=jl (E:=E.dm tk (.n d)) ho1 hs (.cells (c.setIfInBounds (i*z+off) v) e1' (0,0))
  have cz1: ∀{a:AV} {x:Value},bX a=true→Cz E a x→Cz (E.dm tk (.n d)) a x:=fun{a x} hi hc=>(hc.ext (s7 tk (.n d)) h.wf (aX tk) (fun q' vG=>(kB _ _).2 (by cases vG;rfl))).2 hi
  have cz2: ∀{a:AV} {x:Value},Cz (E.dm tk (.n d)) a x→Cz ((E.dm tk (.n d)).write (.s d) (.cells (c.setIfInBounds (i*z+off) v) e1' (0,0))) a x:=fun{a x} hc=>by
   have:=(hc.ext hE h1.wf (fun _=>false) (fX _)).1
   rwa [lb (fun _=>rfl)]at this
  have hxl: ∀l∈xs.set i (bF cs off [.sl r ys]),l.length=z:=fun l rB=>by
   rcases List.mem_or_eq_of_mem_set rB with h1|h1
   ·exact hz l h1
   ·rw[h1,jm (by simp;omega)];exact zB
  have WZ:(xs.set i (bF cs off [.sl r ys])).flatten=bF xs.flatten (i*z+off) [.sl r ys]:=oZ hz e3 (by simp;omega)
  have yd: ∀q',(xs.set i (bF cs off [.sl r ys])).flatten[q']? =if q'=i*z+off then some (.sl r ys)else xs.flatten[q']? :=fun q'=>by
   rw[WZ];exact E7 (by omega) q'
  have AS:E.m (.s d)<E.h.size:=(Array.getElem?_eq_some_iff.1 hb).1
  have qf:bM ((E.dm tk (.n d)).write (.s d) (.cells (c.setIfInBounds (i*z+off) v) e1' (0,0))) (.s d) (.ow (.sl z) none (xs.set i (bF cs off [.sl r ys]))):=by
   refine⟨hl,ho1,hs,fun q' a' ha=>?_,fun q'=>if q'=i*z+off then v else u q',⟨dw,hxl,(List.length_set ..).trans nQ,hle,hm,c.setIfInBounds (i*z+off) v,e1',?_,(Array.size_setIfInBounds ..).trans dg,fun q' a' ha=>?_⟩,fun q' a' ha=>?_,?_⟩
   ·rw[yd]at ha
    split at ha
    ·cases ha;rfl
    ·exact kY q' a' ha
   ·have:(E.dm tk (.n d)).m (.s d)=E.m (.s d):=rfl
    simp only[Env.write];rw[this];exact Array.getElem?_setIfInBounds_self_of_lt AS
   ·rw[yd]at ha;dsimp only;by_cases e:q'=i*z+off
    ·rw[if_pos e,e];exact Array.getElem?_setIfInBounds_self_of_lt (by omega)
    ·rw[if_neg e]at ha ⊢;rw[Array.getElem?_setIfInBounds_ne (fun hh=>e hh.symm)];exact hu q' a' ha
   ·rw[yd]at ha;dsimp only;by_cases e:q'=i*z+off
    ·rw[if_pos e]at ha ⊢;cases ha;exact cz2 zw.read
    ·rw[if_neg e]at ha ⊢;exact cz2 (cz1 (kY q' a' ha) (hq q' a' ha))
   ·refine L6 (z:=z) (r:=r) (ys:=ys) ra (fun q'=>?_) ?_ (fun b hb aV=>?_) (fun b hbv=>?_)
    ·rw[yd];by_cases e:q'=i*z+off
     ·rw[if_pos e,if_pos e,if_pos (by omega)]
     ·rw[if_neg e,if_neg e]
    ·exact rU (cz2 zw)
    ·have ct:b≠E.m (.s d):=fun e=>by rw[e,ho]at hb;cases hb
     refine⟨(sZ (by rw[hb];intro e;injection e with e;exact WY e.symm)).trans hb,?_,fun _=>Iff.rfl,rfl⟩;show(E.h.setIfInBounds (E.m (.s d)) _)[b]? =_;rw[Array.getElem?_setIfInBounds_ne (Ne.symm ct)]
    ·intro e;have:=(sY (rU hy) hbv).1
     rw[this]at e;injection e with e;exact WY e
  refine sU (w':=w') ?_ ⟨_,_,_,hk,h1.pB F4 qf g2 g3 ho1 hs,.any _⟩;simp only[execOp,he,dD,hav];simp[g1]
 ·exact hk.elim
end Ab
namespace Ab
open Go
variable{P:Program}{L:nK}{s:St}{p:Path}{C:dx}{K:bd}
theorem KZ{I:Pr}{ti:TI}{d i off z:Nat}{a:AV}(h:IV I ti d i off z a s K):Ad I ti d i off z a s K:=by
 unfold IV at h;unfold Ad
 split at h
 ·rename_i z' xs hl;try rw[hl]
  obtain⟨zs,⟨cs,k1,k2,k3,k4,rfl⟩,h2⟩:=h;exact⟨cs,k1,k2,k3,k4,h2⟩
 ·exact h.elim
theorem KY{I:Pr}{ti:TI}{d off:Nat}{a:AV}(h:IU I ti d off a s K):qi I ti d off a s K:=by
 unfold IU at h;unfold qi;cases hl:look d s.b with
 |none=>rw[hl]at h;unfold qi at h;rw[hl]at h;exact h
 |some o=>
  rw[hl]at h;cases o with
  |arr z xs=>
   dsimp only at h ⊢
   split at h
   ·obtain⟨zs,⟨k1,k2,k3,k4,rfl⟩,h2⟩:=h;exact⟨k1,k2,k3,k4,h2⟩
   ·exact h.elim
  |_=>dsimp only at h;unfold qi at h;rw[hl]at h;exact h
theorem Nt{t:Nat}{x a:AV}(h:IW C t x a s K):Jb C t x a s K:=by
 unfold IW at h;unfold Jb
 split at h
 ·rename_i ti k h1 h2;try rw[h1,h2]
  obtain⟨k1,k2,k3⟩:=h;refine⟨k1,k2,?_⟩
  split at k3
  ·exact KY k3
  ·exact KZ k3
  ·exact k3.elim
 ·exact h.elim
theorem Rm(hI:C.I=al){t d:Nat}{n m:Int}(h:TP C t d n m s K):P1 C t d n m s K:=by
 unfold TP at h;unfold P1
 split at h
 ·rename_i e ti h1 h2;try rw[h1,h2]
  obtain⟨xs,j,⟨k1,k2,k3,rfl,rfl⟩,h4⟩:=h;exact⟨k1,k2,k3,h4⟩
 ·exact h.elim
theorem K5(hI:C.I=al){t d:Nat}{x y:AV}(h:I4 C t d x y s K):Eb C t d x y s K:=by
 unfold I4 at h;unfold Eb
 split at h
 ·rename_i e ti r ys h1 h2;try rw[h1,h2]
  try dsimp only
  split at h
  ·obtain⟨k0,zs,⟨k1,k2,rfl⟩,h3⟩:=h;exact⟨k0,k1,k2,h3⟩
  ·obtain⟨zs,⟨k1,k2,k3⟩,h3⟩:=h;have:ys=zs:=by rw[←k3,hI];simp[al]
   subst this;refine⟨?_,h3⟩;have h0:C.I.fR []=0:=by rw[hI];rfl
   rw[h0]at k1;exact k1
  ·exact h.elim
 ·exact h.elim
theorem Da: ∀{xs:List (List AV)} {q:Nat} {a:AV},(∀l∈xs,l.length=1)→xs[q]? =some [a]→xs.flatten[q]? =some a
 |[],q,a,_,h=>by simp at h
 |l::r,q,a,hz,h=>by
  have hl:=hz l (by simp)
  rw[List.flatten_cons];cases q with
  |zero=>simp at h;subst h;simp
  |succ q=>
   rw[ji (by omega),hl];exact Da (xs:=r) (fun l' rB=>hz l' (by simp[rB])) (by simpa using h)
theorem Nx{t:Nat}{n:Int}{x:AV}(h:I1 C p t n x s K):Je C p t n x s K∨(∃(b:ByteArray) (z:Int),x= .v (.string b)∧isStr C.L t=true∧under s p (0≤n∧ ∃c:UInt8,b[n.toNat]? =some c∧(c.toNat:Int)=z)∧K (.v (.int .u8 z)) s)∨
  ∃(m e:Nat) (xs:List (List AV)) (ti tj:TI) (b:AV),x= .ar m 1 xs∧C.L t=some ti∧ti.k= .arr m e∧C.L e=some tj∧tj.size=1∧tj.agg=false∧under s p (0≤n∧xs[n.toNat]? =some [b])∧K b s:=by
 unfold I1 at h
 split at h
 ·rename_i b;cases hs:isStr C.L t with
  |false=>rw[hs]at h;exact h.elim
  |true=>
   rw[hs,aE]at h;obtain⟨z,h1,h2⟩:=h;exact .inr (.inl ⟨b,z,rfl,rfl,h1,h2⟩)
 ·rename_i m z xs
  split at h
  ·rename_i ti rE
   split at h
   ·rename_i m' e hk
    split at h
    ·rename_i tj KS;cases hb:bQ tj.size 1&&(!tj.agg&&(bQ m m'&&bQ z 1))with
     |false=>rw[hb]at h;exact h.elim
     |true=>
      rw[hb,aE]at h;simp only[Bool.and_eq_true,Bool.not_eq_true']at hb;obtain⟨b,h1,h2⟩:=h;obtain⟨b1,b2,b3,b4⟩:=hb;have e1:=cY b1
      have e3:=cY b3
      have e4:=cY b4
      subst e3;subst e4;exact .inr (.inr ⟨m,e,xs,ti,tj,b,rfl,rE,hk,KS,e1,b2,h1,h2⟩)
    ·exact h.elim
   ·exact h.elim
  ·exact h.elim
 ·exact .inl h
theorem uB{I:Pr}{o:Op}{r:AV}(h:CT I L s p o=some r):sB I L s p o=some r:=by
 unfold CT at h;cases hb:isLen o with
 |true=>rw[hb]at h;cases h
 |false=>rw[hb]at h;exact h
theorem Mj{I:Pr}{c:Call}{k:IntKind}{m:Int}(hc:c.callee= .builtin .len)(h:LV I L .len c.argTypes.toList (c.args.toList.map (bP s p))=some (.v (.int k m))):sB I L s p (.call c)=some (.v (.int k m)):=by
 simp only[sB,hc];exact h
variable{E0 E:Env}{w0 w:World}{a:Act}
theorem gR{x y:AV}{v:Value}(hw:P0 x y)(h:Cz E x v):Cz E y v:=by
 unfold P0 at hw
 split at hw
 ·exact .any _
 ·subst hw;have:=bN h;subst this;exact .rH _ _
 ·subst hw;have:=bN h;subst this;exact .mq _ _ _
 ·obtain⟨rfl,rfl⟩:=hw;exact h.read
 ·subst hw;exact h
theorem xB: ∀{cs cs':List AV},wks cs cs'→cs.length=cs'.length∧ ∀(q:Nat) (a:AV),cs'[q]? =some a→ ∃a0,cs[q]? =some a0∧P0 a0 a
 |[],[],_=>⟨rfl,fun q a h=>by simp at h⟩
 |x::r,y::r',h=>by
  obtain⟨h1,h2⟩:=h;obtain⟨h3,h4⟩:=xB h2;refine⟨by simp[h3],fun q a hq=>?_⟩;cases q with
  |zero=>simp at hq;subst hq;exact⟨x,by simp,h1⟩
  |succ q=>obtain⟨a0,h5,h6⟩:=h4 q a (by simpa using hq);exact⟨a0,by simpa using h5,h6⟩
 |[],_::_,h=>h.elim
 |_::_,[],h=>h.elim
theorem EM: ∀{xs zs:List (List AV)},wkL xs zs→xs.length=zs.length∧(∀(n:Nat) (z:List AV),zs[n]? =some z→ ∃x,xs[n]? =some x∧x.length=z.length)∧xs.flatten.length=zs.flatten.length∧
  ∀(q:Nat) (a:AV),zs.flatten[q]? =some a→bX a=true∧ ∃a0,xs.flatten[q]? =some a0∧P0 a0 a
 |[],[],_=>⟨rfl,fun n z h=>by simp at h,rfl,fun q a h=>by simp at h⟩
 |x::r,y::r',h=>by
  obtain⟨⟨h1,h2⟩,h3⟩:=h;obtain⟨g1,g2,g3,g4⟩:=EM h3;obtain⟨k1,k2⟩:=xB h1;refine⟨by simp[g1],fun n z hn=>?_,by simp[k1,g3],fun q a hq=>?_⟩
  ·cases n with
   |zero=>simp at hn;subst hn;exact⟨x,by simp,k1⟩
   |succ n=>obtain⟨x',e1,e2⟩:=g2 n z (by simpa using hn);exact⟨x',by simpa using e1,e2⟩
  ·rw[List.flatten_cons]at hq;by_cases aV:q<y.length
   ·rw[iq aV]at hq;obtain⟨a0,e1,e2⟩:=k2 q a hq;exact⟨bf h2 q a hq,a0,by rw[List.flatten_cons,iq (by omega)];exact e1,e2⟩
   ·rw[ji (by omega)]at hq;obtain⟨hi,a0,e1,e2⟩:=g4 _ a hq;exact⟨hi,a0,by rw[List.flatten_cons,ji (by omega),k1];exact e1,e2⟩
 |[],_::_,h=>h.elim
 |_::_,[],h=>h.elim
theorem Cz.aor{r:Nat}{t:Tok}{xs zs:List (List AV)}{x:Value}(h:Cz E (.gs r t xs) x)(hw:wkL xs zs):Cz E (.gs r t zs) x:=by
 obtain⟨g1,g2,g3,g4⟩:=EM hw;cases h with
 |rH=>
  have:zs=[]:=List.eq_nil_of_length_eq_zero (by rw[←g1];rfl)
  subst this;exact .rH _ _
 |gs _ _ _ z b c e cells u hc hm h0 dw hz hr hb dg ho er hi hu hq=>
  rw[g1]at hc h0 er ⊢;refine .gs r t zs z b c e cells u hc hm h0 dw (fun l hl=>?_) hr hb dg ho er (fun q a ha=>(g4 q a ha).1) (fun q a ha=>?_) (fun q a ha=>?_)
  ·obtain⟨n,hn⟩:=List.getElem?_of_mem hl;obtain⟨x,e1,e2⟩:=g2 n l hn;rw[←e2];exact hz x (jK e1)
  ·obtain⟨_,a0,e1,e2⟩:=g4 q a ha;exact hu q a0 e1
  ·obtain⟨_,a0,e1,e2⟩:=g4 q a ha;exact gR e2 (hq q a0 e1)
def Kwk(K:bd):bd:=fun r s=> ∃r',(∀E x,Cz E r x→Cz E r' x)∧K r' s
theorem vv{t len d:Nat}{parts:List (Nat×Operand)}(h:vZ C p t len d parts s K):rR C p t len d parts s (Kwk K):=by
 unfold vZ at h;unfold rR
 split at h
 ·rename_i e ti h1;try rw[h1]
  try dsimp only
  split at h
  ·rename_i s1 h2;(try rw[h2]);try dsimp only
   split at h
   ·rename_i cs h3;(try rw[h3]);(try dsimp only);cases hb:cr cs&&(mM 1 ti.size&&mM (len*ti.size) 16777216)with
    |true=>rw[hb,aE]at h;rw[aE];obtain⟨zs,⟨ws,k1,rfl⟩,h4⟩:=h;exact⟨_,fun E x hx=>hx.aor k1,h4⟩
    |false=>rw[hb]at h;exact h.elim
   ·exact h.elim
  ·exact h.elim
 ·exact h.elim
theorem bM.akm{k:Key}{z:Nat}{xs zs:List (List AV)}(h:bM E k (.arr z xs))(hw:wkL xs zs):bM E k (.arr z zs):=by
 obtain⟨g1,g2,g3,g4⟩:=EM hw;obtain⟨h1,h2,h3,h4,h5,c,e,h6,h7,h8,h9,By,Kg⟩:=h;refine⟨h1,by rw[←g1];exact h2,h3,fun l hl=>?_,by rw[←g1];exact h5,c,e,h6,h7,h8,by rw[←g1];exact h9,fun q a ha=>(g4 q a ha).1,fun q a x ha hx=>?_⟩
 ·obtain⟨n,hn⟩:=List.getElem?_of_mem hl;obtain⟨x,e1,e2⟩:=g2 n l hn;rw[←e2];exact h4 x (jK e1)
 ·obtain⟨_,a0,e1,e2⟩:=g4 q a ha;exact gR e2 (Kg q a0 x e1 hx)
theorem G5(hL:bj P C.L)(h:bq E0 E w0 w s a){o:Oper}{t len:Nat}{parts:Array (Nat×Operand)}(he:o.op= .buildSlice t len parts){d:Nat}{Q:Exit→Act→World→Prop}(hk:I3 C t len d parts.toList s K):lz P o a w (fb E0 w0 o a K) Q:=by
 unfold I3 at hk;generalize C.base+d=d at hk;cases sg:elemOf C.L t with
 |none=>rw[sg]at hk;exact hk.elim
 |some et=>
  obtain⟨e,ti⟩:=et;rw[sg]at hk;obtain⟨hu,Kf,i,i1,i2,i3,zv,i4,i5⟩:=gr hL sg;cases eu:look d s.b with
  |some _=>rw[eu]at hk;exact hk.elim
  |none=>
   rw[eu]at hk;dsimp only at hk;cases hf:o5 ti.size ((List.replicate len (ti.zero.map AV.v)).flatten) (parts.toList.map fun q=>(q.1,rd (bP s [] q.2)))with
   |none=>rw[hf]at hk;exact hk.elim
   |some cs=>
    rw[hf]at hk;dsimp only at hk;cases hb:cr cs&&(mM 1 ti.size&&mM (len*ti.size) 16777216)with
    |false=>rw[hb]at hk;exact hk.elim
    |true=>
     rw[hb,aE]at hk;simp only[Bool.and_eq_true]at hb;have b2:1≤ti.size:=by simpa using hb.2.1
     have b3:len*ti.size≤16777216:=by simpa using hb.2.2
     have hll:len≤len*ti.size:=Nat.le_mul_of_pos_right _ b2
     have Ca:=(hL.ok e ti Kf).KV
     obtain⟨zs,⟨ws,k0,rfl⟩,hk⟩:=hk;have O9:xw E (parts.toList.map fun q=>(q.1,rd (bP s [] q.2))) (parts.toList.map fun q=>(q.1,a.eval q.2)):=by
      refine⟨by simp,fun q x y hx hy=>?_⟩;simp only[List.getElem?_map]at hx hy;cases hq:parts.toList[q]? with
      |none=>rw[hq]at hx;simp at hx
      |some zz=>rw[hq]at hx hy;simp at hx hy;subst hx;subst hy;exact⟨rfl,(h.ev (p:=[]) trivial _).giveUp h.wf _⟩
     obtain⟨c',k1,k2⟩:=xb O9 (Hv i5 Ca len) hf;have hlen:cs.length=len*ti.size:=by
      rw[Cm hf,aB (z:=ti.size) (fun x hx=>by rw[(List.mem_replicate.1 hx).2];simp[Ca])];simp
     have xR: ¬E.live (.s d):=fun rB=>by obtain⟨ob,ho⟩:=h.lv d rB;rw[eu]at ho;cases ho
     have eB:=wh (P:=P) hu i1 i4 (by omega) (len:=len) (by rw[i2];exact b3) (vs:=parts.map fun q=>(q.1,a.eval q.2)) (c':=c') (by rw[i2,←k1];congr 1;simp) w
     have W9:(parts.map fun(i,x)=>(i,a.eval x))=parts.map fun q=>(q.1,a.eval q.2):=rfl
     have qf:=Dq h (k:= .s d) xR (z:=ti.size) (n:=len) (cs:=cs) (c:=c') (by omega) (by unfold maxLen;omega) hlen hb.1 k2 e
     refine cP (x:= .slice (some ⟨w.heap.size,0,none⟩) len len) (w':=w.alloc _) ?_ ⟨_,_,_,hk,h.Si eu (qf.akm k0),?_⟩
     ·simp only[execOp,he,W9];simp[eB]
     ·have hmk:(E.addKey (.s d) (.cells c' e (0,0)) len).m (.s d)=w.heap.size:=by simp[Env.addKey,h.heap]
      have:=Cz.eW (E:=E.addKey (.s d) (.cells c' e (0,0)) len) (.s d) len (.inl rfl) (by simp[Env.addKey]) (by simp[Env.addKey]) (by simp[Env.addKey];unfold maxLen;omega)
      rw[hmk]at this;simpa[Env.addKey]using this
theorem uh(hL:bj P C.L)(h:bq E0 E w0 w s a){o:Oper}{t:Nat}{x y:Operand}(he:o.op= .index t x y){n:Int}(hn:intOf (bP s p y)=some n)(hk:I1 C p t n (bP s p x) s K):Reads P E w a o s p K:=by
 have fin: ∀v z k,a.eval x=v→a.eval y= .int k n→(Instr.index t v (.int k n)).run P w= .ok z w→(execOp a.eval o).run P w= .ok (.value z) w:=fun v z k hv hk hy=>by
  simp only[execOp,he,hv,hk];simp[hy]
 rcases Nx hk with hk|⟨b,z,dK,hs,hb,hk⟩|⟨m,e,xs,ti,tj,b,dK,rE,jH,KS,zx,Nh,hb,hk⟩
 ·exact Jd hL h he hn hk
 ·refine⟨_,hk,fun hp=>?_⟩;obtain⟨h0,c,h1,h2⟩:=bC hb hp;obtain⟨ki,hy⟩:=dU hn h hp;have hx:=h.ev hp x
  rw[dK]at hx;refine⟨_,fin _ _ _ (bN hx) hy (Ak hL hs ki n b h0 h1 w),?_⟩;rw[←h2];exact .v _
 ·refine⟨_,hk,fun hp=>?_⟩;obtain⟨h0,h1⟩:=bC hb hp;obtain⟨ki,hy⟩:=dU hn h hp;have hx:=h.ev hp x
  rw[dK]at hx;obtain⟨zw,hnn,hz,hi⟩:=PF hx;have h2:=Da hz h1
  have Xa:n.toNat<xs.length:=(bh.1 h1).1
  generalize hv:a.eval x=v at zw;cases zw with
  |agg _ ys hl hq=>
   have aV:n.toNat<ys.length:=by rw[hl];exact(bh.1 h2).1
   exact⟨ys[n.toNat],fin _ _ _ hv hy (Am hL rE jH KS zx Nh ki n _ h0 (by omega) (by simp[aV]) w),hq _ b _ h2 (by simp)⟩
theorem oa{o:Oper}(h1:bc s p→Reads P E w a o s p K)(h2: ¬bc s p→ ∃r,K r s):Reads P E w a o s p K:=by
 by_cases hp:bc s p
 ·exact h1 hp
 ·obtain⟨r,hr⟩:=h2 hp;exact⟨r,hr,fun h=>absurd h hp⟩
theorem sV{X:Prop}(h:X):under s p X:=by
 unfold under
 split
 ·exact h
 ·exact fun _=>h
theorem yV(hL:bj P C.L)(hI:C.I=al)(h:bq E0 E w0 w s a){o:Oper}{t:Nat}{x y:Operand}(he:o.op= .indexAddr t x y){n:Int}(hn:intOf (bP s p y)=some n)(hk:xIdx C p t n (bP s p x) s K):Reads P E w a o s p K:=by
 have base:=fun hk=>ND (K:=K) (p:=p) hL hI h he hn hk
 by_cases aol: ∃r z xs,bP s p x= .lB r z xs
 ·obtain⟨r,z,xs,dK⟩:=aol;unfold xIdx at hk;rw[dK]at hk;dsimp only at hk
  split at hk
  ·rename_i ti rE
   split at hk
   ·rename_i m e jH
    split at hk
    ·rename_i tj KS;obtain⟨cs,⟨k1,k2,hb⟩,hk⟩:=hk;rw[hI]at k1;have k1:xs.length=m:=k1
     subst k2;refine⟨_,hk,fun hp=>?_⟩;obtain⟨h0,h1⟩:=bC hb hp;obtain⟨ki,hy⟩:=dU hn h hp;have hx:=h.ev hp x
     rw[dK]at hx;cases hx with
     |lB _ _ _ _ hz hc=>
     generalize dD:a.eval x=v at hc;cases hc with
     |aR _ _ _ b o u hr hi er hu hq=>
     have aV:n.toNat<xs.length:=(bh.1 h1).1
     have jh:cs.length=tj.size:=hz cs (by rw[fp aV]at h1;cases h1;simp)
     have hg: ∀(q:Nat) (a:AV),cs[q]? =some a→xs.flatten[n.toNat*tj.size+q]? =some a:=fun q a' ha=>by
      rw[dE hz h1 q (by rw[←jh];exact(bh.1 ha).1)];exact ha
     refine⟨_,?_,Cz.aR (E:=E) r cs 0 b (o+n.toNat*tj.size) (fun q=>u (n.toNat*tj.size+q)) (fun q a' ha=>hr _ a' (hg q a' ha)) (fun q a' ha=>hi _ a' (hg q a' ha)) (fun q a' ha=>by have:=er _ a' (hg q a' ha);rw[show o+n.toNat*tj.size+q=o+(n.toNat*tj.size+q)from by omega];exact this)
      (fun q a' ha=>by have:=hu _ a' (hg q a' ha);rw[show o+n.toNat*tj.size+q=o+(n.toNat*tj.size+q)from by omega];exact this) (fun q a' ha=>hq _ a' (hg q a' ha))⟩
     have eB:=Al (P:=P) hL rE jH KS ki n b (o+0) h0 (by omega) w
     simp only[execOp,he,dD,hy];simp only[Nat.add_zero]at eB ⊢;simp[eB]
    ·exact hk.elim
   ·exact hk.elim
  ·exact hk.elim
 unfold xIdx at hk
 split at hk
 ·rename_i k m hx
  split at hk
  ·rename_i e ti sg;obtain⟨j,h1,h2⟩:=hk;refine oa (fun hp=>base ?_) (fun _=>⟨_,h2⟩);obtain⟨k1,rfl⟩:=bC h1 hp;unfold TZ;rw[hx];dsimp only;rw[sg];exact⟨sV k1,h2⟩
  ·exact hk.elim
 ·rename_i d off hx
  split at hk
  ·rename_i ti z xs h1 h2
   split at hk
   ·rename_i m e QJ
    split at hk
    ·rename_i tj h3;obtain⟨j,⟨k1,k2,k3⟩,h4⟩:=hk;refine oa (fun hp=>base ?_) (fun _=>⟨_,h4⟩);obtain⟨k4,rfl⟩:=bC k3 hp;unfold TZ;rw[hx];dsimp only;rw[h1,h2];dsimp only;rw[QJ];dsimp only;rw[h3];exact⟨k1,k2,sV k4,h4⟩
    ·exact hk.elim
   ·exact hk.elim
  ·exact hk.elim
 ·rename_i hx;exact absurd ⟨_,_,_,hx⟩ aol
 ·exact base hk
theorem zY(hL:bj P C.L)(hI:C.I=al)(h:bq E0 E w0 w s a){o:Oper}{t:Nat}{x:Operand}{lo hi:Option Operand}(he:o.op= .slice t x lo hi none)(hk:Nu C p t lo hi (bP s p x) s K):Reads P E w a o s p K:=by
 have base:=fun hk=>Jc (K:=K) (p:=p) hL hI h he hk
 unfold Nu at hk
 split at hk
 ·rename_i b hx;cases hs:isStr C.L t with
  |false=>rw[hs]at hk;exact hk.elim
  |true=>
   rw[hs,aE]at hk
   split at hk
   ·rename_i l k h1 h2;obtain⟨b',g1,g2⟩:=hk;refine oa (fun hp=>base ?_) (fun _=>⟨_,g2⟩);obtain⟨g3,rfl⟩:=bC g1 hp;unfold BE;rw[hx];dsimp only;rw[hs,aE,h1,h2];exact⟨sV g3,g2⟩
   ·exact hk.elim
 ·rename_i k m hx
  split at hk
  ·rename_i e v h1 h2 h3;obtain⟨j,g1,g2⟩:=hk;refine oa (fun hp=>base ?_) (fun _=>⟨_,g2⟩);obtain⟨g3,rfl⟩:=bC g1 hp;unfold BE;rw[hx];dsimp only;rw[h2,h3];exact⟨sV g3,g2⟩
  ·exact hk.elim
 ·rename_i d off hx
  split at hk
  ·rename_i ti z xs h1 h2
   split at hk
   ·rename_i m e QJ
    split at hk
    ·rename_i tj _ h3 h4;obtain⟨j,⟨k1,k2,k3,k4⟩,h5⟩:=hk;refine oa (fun hp=>base ?_) (fun _=>⟨_,h5⟩);obtain⟨g3,rfl⟩:=bC k4 hp;unfold BE;rw[hx];dsimp only;rw[h1,h2];dsimp only;rw[QJ];dsimp only;rw[h3,h4];exact⟨k1,k2,k3,sV g3,h5⟩
    ·exact hk.elim
   ·exact hk.elim
  ·exact hk.elim
 ·rename_i r z xs dK
  split at hk
  ·rename_i ti rE
   split at hk
   ·rename_i m e jH
    split at hk
    ·rename_i tj l k KS hl hh;obtain⟨zs,⟨⟨k1,k2,k3⟩,dw,hb⟩,hk⟩:=hk;rw[hI]at k1 hb;have k1:xs.length=m:=k1
     subst k3;refine⟨_,hk,fun hp=>?_⟩;obtain⟨⟨h0,h1,h2⟩,rfl⟩:=bC hb hp;have h2:k≤(m:Int):=h2
     have hx:=h.ev hp x
     rw[dK]at hx;cases hx with
     |lB _ _ _ _ hz hc=>
     generalize dD:a.eval x=v at hc;cases hc with
     |aR _ _ _ b o' u hr kY er hu hq=>
     have e1:(l.toNat:Int)=l:=EV h0
     have e2:(k.toNat:Int)=k:=EV (by omega)
     obtain⟨i,dd,zz,g1,g2,g3,g4,g5,g6,g7⟩:=(hL.ok e _ KS).ex;have eB:=Hb hL rE jH b o' (l:=l.toNat) (h:=k.toNat) (m:=m) (lo:=lo.map a.eval) (hi:=hi.map a.eval) (fun w=>qJ P false m m _ _ _ _ (by
       rcases oO hl h hp h0 with⟨g1,g2⟩|⟨q,g⟩
       ·exact .inl ⟨g1,by omega⟩
       ·exact .inr ⟨q,g⟩) (by
       rcases oO hh h hp (by omega)with⟨g1,g2⟩|⟨q,g⟩
       ·exact .inl ⟨g1,by omega⟩
       ·exact .inr ⟨q,g⟩) (by omega) (by omega) (Nat.le_refl _) w) g1 w
     rw[g2]at eB;have fin: ∀y,(Instr.sliceAt t (.pointer (some ⟨b,o',none⟩)) (lo.map a.eval) (hi.map a.eval) none).run P w= .ok y w→(execOp a.eval o).run P w= .ok (.value y) w:=fun y hy=>by
      simp only[execOp,he,dD,Option.map_none];simp[hy]
     refine⟨_,fin _ eB,?_⟩;by_cases Y0:k.toNat - l.toNat=0
     ·rw[Y0];show Cz E (.sl r ((xs.take k.toNat).drop l.toNat)) _;rw[List.drop_eq_nil_of_le (by simp;omega)];exact .mq _ _ _
     ·rw[if_neg (by omega)];have hlen:((xs.take k.toNat).drop l.toNat).length=k.toNat - l.toNat:=by simp;omega
      have get: ∀q a',((xs.take k.toNat).drop l.toNat).flatten[q]? =some a'→xs.flatten[l.toNat*tj.size+q]? =some a':=fun q a' ha=>S0 hz (by omega) ha
      have:=Cz.sl (E:=E) r ((xs.take k.toNat).drop l.toNat) tj.size b (o'+l.toNat*tj.size) (m - l.toNat) (fun q=>u (l.toNat*tj.size+q)) (by omega) (by omega) (by unfold maxLen;omega) (FT dw) (fun y hy=>hz y (List.mem_of_mem_take (List.mem_of_mem_drop hy))) (hr 0 _ (fp (by rw[aB hz];exact Nat.mul_pos (by omega) (FT dw)))) (fun q a' ha=>kY _ a' (get q a' ha))
       (fun q a' ha=>by have:=er _ a' (get q a' ha);rw[show o'+l.toNat*tj.size+q=o'+(l.toNat*tj.size+q)from by omega];exact this)
       (fun q a' ha=>by have:=hu _ a' (get q a' ha);rw[show o'+l.toNat*tj.size+q=o'+(l.toNat*tj.size+q)from by omega];exact this) (fun q a' ha=>hq _ a' (get q a' ha))
      rw[hlen]at this;exact this
    ·exact hk.elim
   ·exact hk.elim
  ·exact hk.elim
 ·split at hk
  ·rename_i atZ aiz atY _ _ _ r xs e ti h1 h2
   split at hk
   ·rename_i l k h3 h4;obtain⟨zs,g1,g2⟩:=hk;refine oa (fun hp=>base ?_) (fun _=>⟨_,g2⟩);obtain⟨g3,rfl⟩:=bC g1 hp;unfold BE
    split
    ·rename_i hh;exact absurd hh (atZ _)
    ·rename_i hh;exact absurd hh (aiz _ _)
    ·rename_i hh;exact absurd hh (atY _ _)
    rw[h1,h2];dsimp only;rw[h3,h4];exact⟨sV g3,g2⟩
   ·exact hk.elim
  ·exact hk.elim
end Ab
namespace Ab
open Go
variable{P:Program}{L:nK}{E0 E E':Env}{w0 w w':World}{s:St}{a:Act}{p:Path}{C:dx}
open Classical in
noncomputable def lr(k:Value):List MapEntry→Nat→Option (Nat×Value)
 |[],_=>none
 |e::es,i=>if e.key=k then some (i,e.val)else lr k es (i+1)
theorem Dd{k:Value}: ∀{es:List MapEntry} {n:Nat},(∀e∈es,e.key≠k)→lr k es n=none
 |[],_,_=>rfl
 |e::es,n,h=>by unfold lr;rw[if_neg (h e (by simp))];exact Dd fun e' he=>h e' (by simp[he])
theorem Dc{k:Value}: ∀{es:List MapEntry} {n i:Nat} {e:MapEntry},es[i]? =some e→e.key=k→(∀j e',j<i→es[j]? =some e'→e'.key≠k)→lr k es n=some (n+i,e.val)
 |[],n,i,e,h,_,_=>by simp at h
 |x::es,n,0,e,h,hk,_=>by simp at h;subst h;unfold lr;rw[if_pos hk];rfl
 |x::es,n,i+1,e,h,hk,hj=>by
  unfold lr;rw[if_neg (hj 0 x (by omega) rfl),Dc (es:=es) (n:=n+1) (i:=i) (by simpa using h) hk (fun j e' aV hq=>hj (j+1) e' (by omega) (by simpa using hq))];congr 2;omega
structure KeyLaw(P:Program)(t:Nat)(ks:List VK):Prop where
 check: ∀kv,bE ks kv=true→ ∀b w,(Instr.checkKey b 10000 t (gE kv)).run P w= .ok () w
 find: ∀kv (es:List MapEntry),bE ks kv=true→(∀e∈es,∃Br,bE ks Br=true∧e.key=gE Br)→ ∀w,(Instr.findKey t (gE kv) es).run P w= .ok (lr (gE kv) es 0) w
 same: ∀kv,bE ks kv=true→Instr.sameBits 10000 (gE kv) (gE kv)=true
structure vJ(P:Program)(t:Nat)(ks:List VK):Prop where
 eq: ∀xs ys:List Value,bE ks xs=true→bE ks ys=true→ ∃b:Bool,(b=true↔xs=ys)∧ ∀w,(Op.equalIn 10000 t (.agg xs.toArray) (.agg ys.toArray)).run P w= .ok b w
 guard:P.eqGuardType P.depth t=false
theorem jv: ∀{ks:List VK} {kv:List Value},bE ks kv=true→kv.length=ks.length
 |[],[],_=>rfl
 |k::r,x::q,h=>by
  have:bE r q=true:=by
   cases k<;>cases x<;>simp_all [bE]
  simp[jv this]
 |[],_::_,h=>by simp[bE]at h
 |k::_,[],h=>by cases k<;>simp[bE]at h
theorem AY: ∀{ks:List VK} {cs:List AV},nW ks cs=true→ ∃kv:List Value,cs=kv.map .v∧bE ks kv=true
 |[],[],_=>⟨[],rfl,rfl⟩
 |[],_::_,h=>by simp[nW]at h
 |k::r,[],h=>by cases k<;>simp[nW]at h
 |k::r,c0::cs0,h=>by
  generalize Ir:c0::cs0=cs at h ⊢;unfold nW at h
  split at h
  ·rename_i h1;exact absurd h1 (by simp)
  ·rename_i k' r' k2 n q h1;injection h1 with e1 e2;subst e1;subst e2;simp only[Bool.and_eq_true]at h;obtain⟨kv,rfl,h3⟩:=AY h.2;exact⟨.int k2 n::kv,rfl,by simp[bE,h3];simpa using h.1⟩
  ·rename_i r' b q h1;injection h1 with e1 e2;subst e1;subst e2;obtain⟨kv,rfl,h3⟩:=AY h;exact⟨.string b::kv,rfl,by simpa[bE]using h3⟩
  ·rename_i r' b q h1;injection h1 with e1 e2;subst e1;subst e2;obtain⟨kv,rfl,h3⟩:=AY h;exact⟨.bool b::kv,rfl,by simpa[bE]using h3⟩
  ·cases h
theorem WQ{a b:List Value}(hl:a.length=b.length)(h:gE a=gE b):a=b:=by
 match a,b,hl,h with
 |[],[],_,_=>rfl
 |[x],[y],_,h=>simpa[gE]using h
 |x::x2::r,y::y2::q,_,h=>simpa[gE]using h
theorem BZ: ∀{a b:List Value},a.map AV.v=b.map AV.v→a=b
 |[],[],_=>rfl
 |x::r,y::q,h=>by simp only[List.map_cons,List.cons.injEq,AV.v.injEq]at h;rw[h.1,BZ h.2]
 |[],_::_,h=>by simp at h
 |_::_,[],h=>by simp at h
theorem Jg: ∀{kv ys:List Value},ys.length=kv.length→(∀(q:Nat) (a:AV) (y:Value),(kv.map AV.v)[q]? =some a→ys[q]? =some y→Cz E a y)→ys=kv
 |[],[],_,_=>rfl
 |x::r,y::q,hl,h=>by
  have h0:=h 0 (.v x) y rfl rfl
  have e:y=x:=by cases h0;rfl
  rw[e,Jg (kv:=r) (ys:=q) (by simpa using hl) fun j a v ha hv=>h (j+1) a v (by simpa using ha) (by simpa using hv)]
 |[],_::_,hl,_=>by simp at hl
 |_::_,[],hl,_=>by simp at hl
theorem J6{ks:List VK}{k:AV}{v:Value}(hc:Cz E k v)(hf:Db ks k=true): ∃kv:List Value,v=gE kv∧bE ks kv=true∧cellsOf k=kv.map .v:=by
 simp only[Db,Bool.and_eq_true]at hf;obtain⟨h1,h2⟩:=hf;obtain⟨kv,h3,h4⟩:=AY h2;refine⟨kv,?_,h4,h3⟩;unfold Mq at h1
 split at h1
 ·rename_i x;have:cellsOf (.v x)=[.v x]:=by cases x<;>first|rfl|(simp[sy]at h1)
  cases hc;rw[this]at h3
  match kv,h3 with
  |[y],h3=>simp at h3;rw[h3];rfl
 ·rename_i cs;cases hc with
  |agg _ ys hl hq=>
   have h3:cs=kv.map .v:=h3
   subst h3;have:=Jg (E:=E) (kv:=kv) (ys:=ys) (by simpa using hl) hq
   subst this
   match ys,h1 with
   |x::y::r,_=>rfl
   |[x],h1=>simp at h1
   |[],h1=>simp at h1
 ·cases h1
theorem uP(hL:bj P C.L){t k e:Nat}{ks:List VK}{ti:TI}(h:B7 C t=some (ks,k,e,ti)):P.underlying t=some (.map k e)∧C.keys k=some ks∧C.L e=some ti:=by
 unfold B7 at h
 split at h
 ·rename_i sz bt zz k' e' rE
  split at h
  ·rename_i Tu NK h1 h2;cases h;obtain⟨i,d,z,g1,g2,g3,g4,g5,g6,g7⟩:=(hL.ok t _ rE).ex;dsimp only at g7;subst g7;exact⟨g6,h1,h2⟩
  ·cases h
 ·cases h
theorem wK{ks:List VK}{xs:List (List AV)}{es:Array MapEntry}{u:Nat→Value}{kv:List Value}(dg:es.size=xs.length)(oW:bE ks kv=true)
  (fo: ∀(i:Nat) (row:List AV) (e:MapEntry),xs[i]? =some row→es[i]? =some e→ ∃kv:List Value,bE ks kv=true∧row.take ks.length=kv.map .v∧e.key=gE kv∧u (i*(ks.length+1)+ks.length)=e.val∧ ∀j x,kv[j]? =some x→u (i*(ks.length+1)+j)=x):
  (∀e∈es.toList,∃Br,bE ks Br=true∧e.key=gE Br)∧(∀i,yQ xs (kv.map .v) (some i)→ ∃e,es[i]? =some e∧e.key=gE kv∧lr (gE kv) es.toList 0=some (i,e.val))∧(yQ xs (kv.map .v) none→lr (gE kv) es.toList 0=none):=by
 have hlen:=jv oW
 have jN: ∀(i:Nat) (e:MapEntry),es[i]? =some e→ ∃row,xs[i]? =some row:=fun i e he=>by
  have:i<xs.length:=by rw[←dg];exact(Array.getElem?_eq_some_iff.1 he).1
  exact⟨xs[i],by simp[this]⟩
 have ct: ∀(i:Nat) (row:List AV) (e:MapEntry),xs[i]? =some row→es[i]? =some e→(e.key=gE kv↔row.take (kv.map AV.v).length=kv.map .v):=fun i row e hr he=>by
  obtain⟨Br,h1,h2,h3,_⟩:=fo i row e hr he;rw[List.length_map,hlen,h2,h3];exact⟨fun h=>by rw[WQ (by rw[jv h1,hlen]) h],fun h=>by rw[BZ h]⟩
 refine⟨fun e he=>?_,fun i hm=>?_,fun hm=>?_⟩
 ·obtain⟨i,hi⟩:=List.getElem?_of_mem he;rw[Array.getElem?_toList]at hi;obtain⟨row,hr⟩:=jN i e hi;obtain⟨Br,h1,_,h3,_⟩:=fo i row e hr hi;exact⟨Br,h1,h3⟩
 ·obtain⟨row,h1,h2,h3⟩:=hm;have aV:i<es.size:=by rw[dg];exact(bh.1 h1).1
  have he:es[i]? =some es[i]:=by simp[aV]
  have hk:=(ct i row _ h1 he).2 h2
  refine⟨es[i],he,hk,?_⟩;have:=Dc (n:=0) (i:=i) (e:=es[i]) (es:=es.toList) (by rw[Array.getElem?_toList];exact he) hk (fun j e' hj nR=>by
   rw[Array.getElem?_toList]at nR;obtain⟨row',Bt⟩:=jN j e' nR;exact fun hh=>h3 j row' hj Bt ((ct j row' e' Bt nR).1 hh))
  rwa [Nat.zero_add]at this
 ·refine Dd fun e he hh=>?_;obtain⟨i,hi⟩:=List.getElem?_of_mem he;rw[Array.getElem?_toList]at hi;obtain⟨row,hr⟩:=jN i e hi;exact hm row (jK hr) ((ct i row e hr hi).1 hh)
theorem qI{r:Nat}{es:Array MapEntry}{clock:Nat}(h:w.heap[r]? =some (.map es clock)):(getObj r).run P w= .ok (.map es clock) w:=by
 unfold getObj;simp[Sem.run,h]
theorem yn(hL:bj P C.L)(Y0: ∀t ks,C.keys t=some ks→KeyLaw P t ks)(h:bq E0 E w0 w s a){o:Oper}{t:Nat}{m k:Operand}(he:o.op= .lookup t m k false){K:bd}(hk:IZ C p t (bP s p m) (bP s p k) s K):Reads P E w a o s p K:=by
 unfold IZ at hk
 split at hk
 ·rename_i ks kt et ti d hko dK;obtain⟨hu,hkk,Kf⟩:=uP hL hko;have kl:=Y0 _ _ hkk
  split at hk
  ·rename_i Tu xs z eu hzero;cases hf:(Db ks (bP s p k)&&(!ti.agg&&sy z))with
   |false=>rw[hf]at hk;exact hk.elim
   |true=>
    rw[hf,aE]at hk;simp only[Bool.and_eq_true]at hf;obtain⟨hf1,hf2,hf3⟩:=hf;obtain⟨r,⟨e0,anE,YS,hub⟩,hk⟩:=hk;subst e0;refine⟨r,hk,fun hp=>?_⟩;have hx:=h.ev hp m
    rw[dK]at hx;cases dD:a.eval m<;>rw[dD]at hx<;>cases hx;obtain⟨kv,hv,oW,Ga⟩:=J6 (h.ev hp k) hf1;obtain⟨hl,ho,hs,kY,u,⟨QD,es,clock,hb,_,F8,_,_,fo⟩,hq,_⟩:=h.bx d _ eu;obtain⟨q1,q2,q3⟩:=wK F8 oW fo;have an2:=bC hub hp
    rw[Ga]at an2;obtain⟨i,dd,zz,i1,i2,i3,i4,i5,i6,i7⟩:=(hL.ok _ _ Kf).ex;have hzv:zz=z:=by
     rw[hzero]at i5;cases zz<;>first|(simp[Value.cells]at i5;exact i5)|skip
     ·rename_i cells;exfalso;have tM:ti.agg=false:=by simpa using hf2
      have:=(hL.ok _ _ Kf).zv tM i _ i1 i4
      cases this
    have hzr:(zeroValue et).run P w= .ok z w:=by
     unfold zeroValue;simp[Sem.run_bind,typeInfo,program,Sem.run,Result.andThen,i1,i4,hzv]
    have eB: ∀r,lr (gE kv) es.toList 0=r→(execOp a.eval o).run P w= .ok (.value (match r with|some (_,v)=>v|none=>z)) w:=fun r hr=>by
     simp only[execOp,he,dD,hv,Instr.lookup];simp only[Sem.run_bind,eV hu,Result.andThen_ok,qI (show w.heap[E.m (.s d)]? =_ by rw[h.heap];exact hb),Sem.run_pure,kl.check kv oW,kl.find kv es.toList oW q1,hr];cases r with
     |none=>simp[Sem.run_bind,hzr]
     |some r=>simp
    rcases an2 with⟨i,row,a0,g1,g2,g3,g4⟩|⟨g1,g2⟩
    ·obtain⟨e,h1,h2,h3⟩:=q2 i g1;refine⟨_,eB _ h3,gR g4 ?_⟩;obtain⟨Br,h4,h5,h6,h7,h8⟩:=fo i row e g2 h1;dsimp only;rw[←h7];refine hq _ _ ?_;rw[dE QD g2 ks.length (by omega)];rw[List.length_map,jv oW]at g3;exact g3
    ·exact⟨_,eB _ (q3 g1),gR g2 (.v _)⟩
  ·exact hk.elim
 ·exact hk.elim
theorem EG(hL:bj P C.L)(h:bq E0 E w0 w s a){o:Oper}{t d:Nat}(he:o.op= .makeMap t none){K:bd}{Q:Exit→Act→World→Prop}(hk:EH C t d s K):lz P o a w (fb E0 w0 o a K) Q:=by
 unfold EH at hk;generalize C.base+d=d at hk
 split at hk
 ·rename_i ks k e ti hko eu;obtain⟨zs,rfl,hk⟩:=hk;have xR: ¬E.live (.s d):=fun hl=>by obtain⟨ob,ho⟩:=h.lv d hl;rw[eu]at ho;cases ho
  have hA:zS E d E.h.size (E.h.push (.map #[] 0)):=⟨xR,.inl rfl,fun b' dM ct=>by rw[Array.getElem?_push,if_neg (by omega)],by simp,by simp⟩
  have qf:bM (E.cI d E.h.size (0,0) (E.h.push (.map #[] 0))) (.s d) (.ow (.mp ks none) none []):=by
   refine⟨.inl rfl,by simp[Env.cI],fun o hs=>?_,fun q a ha=>by simp at ha,fun _=>undef,⟨fun l hl=>by simp at hl,#[],0,by simp[Env.cI],fun i z hz=>(by cases hz),rfl,fun i e he=>by simp at he,fun i j e e' he=>by simp at he,fun i row e hr=>by simp at hr⟩,fun q a ha=>by simp at ha,fun q r ys hq=>by simp at hq,fun q q' r r' ys BA b hq=>by simp at hq⟩;have:E.aI E.h.size o:=by simpa[Env.cI]using hs
   have:=h.wf.aI _ _ this
   omega
  have hA':zS E d E.h.size ({w with heap:=w.heap.push (.map #[] 0)}:World).heap:=by show zS E d E.h.size (w.heap.push _);rw[h.heap];exact hA
  have hs':=h.cI (w':={w with heap:=w.heap.push (.map #[] 0)}) (n:=(0,0)) eu hA' ⟨rfl,rfl,rfl⟩ (by show bM (E.cI d E.h.size (0,0) (w.heap.push _)) _ _;rw[h.heap];exact qf)
  refine cP (x:= .map (some w.heap.size)) (w':={w with heap:=w.heap.push (.map #[] 0)}) ?_ ⟨_,_,_,hk,hs',?_⟩
  ·simp only[execOp,he,Option.map_none];simp[Instr.makeMap,newObj,Sem.run,Sem.run_bind,Result.andThen]
  ·have:=Cz.mp (E:=E.cI d E.h.size (0,0) ({w with heap:=w.heap.push (.map #[] 0)}:World).heap) (.s d) (.inl rfl)
   have e:(E.cI d E.h.size (0,0) ({w with heap:=w.heap.push (.map #[] 0)}:World).heap).m (.s d)=w.heap.size:=by simp[Env.cI,h.heap]
   rwa [e]at this
 ·exact hk.elim
theorem map_push(hw:Wf E){d:Nat}{ks:List VK}{xs:List (List AV)}(qf:bM E (.s d) (.ow (.mp ks none) none xs)){kv:List Value}(oW:bE ks kv=true){av:AV}{v:Value}(hc:Cz E av v)(hi:bX av=true)(hnr: ∀r ys,av= .sl r ys→ys=[]∧v= .slice none 0 0)
  {es:Array MapEntry}{clock:Nat}(hb:E.h[E.m (.s d)]? =some (.map es clock))(st:Option (Nat×Int))(er: ∀i z,st=some (i,z)→i=xs.length∧z=clock):
  ∃u,sS E (.s d) (.mp ks st) (E.len (.s d)) (some (.map (es.push {key:=gE kv,val:=v,born:=clock}) (clock+1))) (xs++[kv.map AV.v++[av]]) u∧(∀(q:Nat) (a:AV),(xs++[kv.map AV.v++[av]]).flatten[q]? =some a→bX a=true∧Cz E a (u q))∧Hs E (.n d) (ks.length+1) none (xs++[kv.map AV.v++[av]]) u∧u (xs.length*(ks.length+1)+ks.length)=v:=by
 obtain⟨hl,ho,hs,kY,u0,⟨QD,es',akb,dM,_,F8,hbn,tI,fo⟩,hq,ra⟩:=qf;rw[hb]at dM;cases dM;have Y0:=jv oW
 have fS:=aB QD
 have atE: ∀l∈xs++[kv.map AV.v++[av]],l.length=ks.length+1:=fun l hl=>by
  rcases List.mem_append.1 hl with h|h
  ·exact QD l h
  ·simp at h;subst h;simp[Y0]
 let n:=xs.length*(ks.length+1);let u:Nat→Value:=fun q=>if q<n then u0 q else if q=n+ks.length then v else(kv[q - n]?).getD undef;have DA: ∀q,q<n→u q=u0 q:=fun q hq=>by simp only[u];rw[if_pos hq]
 have uv:u (n+ks.length)=v:=by simp only[u];rw[if_neg (by omega)];simp
 have alu: ∀j x,kv[j]? =some x→u (n+j)=x:=fun j x hx=>by
  have hj:=(bh.1 hx).1
  simp only[u];rw[if_neg (by omega),if_neg (by omega),Nat.add_sub_cancel_left,hx];rfl
 have qg: ∀(q:Nat) (a:AV),(xs++[kv.map AV.v++[av]]).flatten[q]? =some a→(q<n∧xs.flatten[q]? =some a)∨(q=n+ks.length∧a=av)∨ ∃j x,q=n+j∧kv[j]? =some x∧a= .v x:=by
  intro q a ha;rw[List.flatten_append]at ha;by_cases aV:q<xs.flatten.length
  ·rw[iq aV]at ha;exact .inl ⟨by omega,ha⟩
  ·rw[ji (by omega)]at ha;simp only[List.flatten_cons,List.flatten_nil,List.append_nil]at ha;by_cases hk:q - xs.flatten.length<kv.length
   ·rw[iq (by rw[List.length_map];exact hk),List.getElem?_map]at ha;refine .inr (.inr ⟨q - xs.flatten.length,kv[q - xs.flatten.length],by omega,by simp[hk],?_⟩);rw[fp hk]at ha;cases ha;rfl
   ·rw[ji (by rw[List.length_map];omega)]at ha;have:q - xs.flatten.length - (kv.map AV.v).length=0:=by
     have:=(bh.1 ha).1
     simp only[List.length_cons,List.length_nil]at this;omega
    have hq0:=this
    rw[this]at ha;simp at ha;rw[List.length_map]at hq0;exact .inr (.inl ⟨by omega,ha.symm⟩)
 refine⟨u,⟨atE,_,_,rfl,fun i z hz=>?_,by simp[F8],fun i e he=>?_,fun i j e e' he nR tK=>?_,fun i row e hr he=>?_⟩,fun q a ha=>?_,⟨fun q r ys vG _=>?_,fun q q' r r' ys BA b hq1 hq2 _ _ ct ye=>?_⟩,uv⟩
 ·obtain⟨e1,e2⟩:=er i z hz;exact⟨{key:=gE kv,val:=v,born:=clock},by rw[e1,←F8];simp,e2.symm⟩
 ·rw[Array.getElem?_push]at he
  split at he
  ·cases he;exact Nat.lt_succ_self _
  ·exact Nat.lt_succ_of_lt (hbn i e he)
 ·rw[Array.getElem?_push]at he nR
  split at he
  ·split at nR
   ·omega
   ·cases he;have:=hbn j e' nR
    simp only at tK;omega
  ·split at nR
   ·cases nR;have:=hbn i e he
    simp only at tK;omega
   ·exact tI i j e e' he nR tK
 ·by_cases hi:i<xs.length
  ·rw[iq hi]at hr;rw[Array.getElem?_push,if_neg (by omega)]at he;obtain⟨Br,h1,h2,h3,h4,h5⟩:=fo i row e hr he;have hmul:i*(ks.length+1)+(ks.length+1)≤n:=by rw[←Nat.succ_mul];exact Nat.mul_le_mul_right _ hi
   refine⟨Br,h1,h2,h3,by rw[DA _ (by omega)];exact h4,fun j x hx=>?_⟩;have hj:=(bh.1 hx).1
   rw[jv h1]at hj;rw[DA _ (by omega)];exact h5 j x hx
  ·have hie:i=xs.length:=by
    have:=(bh.1 hr).1
    simp at this;omega
   subst hie;rw[ji (Nat.le_refl _),Nat.sub_self]at hr;rw[Array.getElem?_push,if_pos F8.symm]at he;cases he;simp at hr;subst hr;exact⟨kv,oW,by rw[←Y0,List.take_append_of_le_length (by simp),List.take_of_length_le (by simp)],rfl,uv,fun j x hx=>alu j x hx⟩
 ·rcases qg q a ha with⟨h0,h1⟩|⟨h0,rfl⟩|⟨j,x,h0,h1,rfl⟩
  ·rw[DA q h0];exact⟨kY q a h1,hq q a h1⟩
  ·rw[h0,uv];exact⟨hi,hc⟩
  ·rw[h0,alu j x h1];exact⟨rfl,.v _⟩
 ·rcases qg q _ vG with⟨h0,h1⟩|⟨h0,h1⟩|⟨j,x,h0,h1,h2⟩
  ·rw[DA q h0];exact ra.1 q r ys h1 (fun hh=>hh)
  ·obtain⟨e1,e2⟩:=hnr r ys h1.symm;rw[h0,uv];exact .inl ⟨e1,e2⟩
  ·cases h2
 ·rcases qg q _ hq1 with⟨h0,h1⟩|⟨h0,h1⟩|⟨j,x,h0,h1,h2⟩
  ·rcases qg q' _ hq2 with⟨KU,TC⟩|⟨KU,TC⟩|⟨j,x,KU,TC,SR⟩
   ·rw[DA q h0]at ye;rw[DA q' KU];exact ra.2 q q' r r' ys BA b h1 TC (fun hh=>hh) (fun hh=>hh) ct ye
   ·rw[KU,uv,(hnr r' BA TC.symm).2];intro hh;cases hh
   ·cases SR
  ·rw[h0,uv,(hnr r ys h1.symm).2]at ye;cases ye
  ·cases h2
theorem G4(hL:bj P C.L)(hI:C.I=al)(Y0: ∀t ks,C.keys t=some ks→KeyLaw P t ks)(h:bq E0 E w0 w s a){o:Oper}{t:Nat}{m k v:Operand}(he:o.op= .insert t m k v){K:bd}{Q:Exit→Act→World→Prop}(hk:I0 C t (bP s [] m) (bP s [] k) (bP s [] v) s K):lz P o a w (fb E0 w0 o a K) Q:=by
 unfold I0 at hk
 split at hk
 ·rename_i ks kt et ti d hko dK;obtain⟨hu,hkk,Kf⟩:=uP hL hko;have kl:=Y0 _ _ hkk
  split at hk
  ·rename_i Tu xs eu;cases hf:(Db ks (bP s [] k)&&(isV (bP s [] v)&&V8 (bP s [] v)))with
   |false=>rw[hf]at hk;exact hk.elim
   |true=>
    rw[hf,aE]at hk;simp only[Bool.and_eq_true]at hf;obtain⟨hf1,hf2,hf3⟩:=hf;obtain⟨zs,⟨e0,hub,e1⟩,hk⟩:=hk;subst e0;rw[hI]at e1;have e1:xs++[cellsOf (bP s [] k)++[bP s [] v]]=zs:=e1
    subst e1;have hx:=h.ev (p:=[]) trivial m
    rw[dK]at hx;cases dD:a.eval m<;>rw[dD]at hx<;>cases hx;obtain⟨kv,hv,oW,Ga⟩:=J6 (h.ev (p:=[]) trivial k) hf1;have hcv:=h.ev (p:=[]) trivial v
    (obtain⟨xv,hxv⟩: ∃x,bP s [] v= .v x:=by cases hvv:bP s [] v<;>rw[hvv]at hf2<;>first|exact⟨_,rfl⟩|(simp[isV]at hf2));have qf:=h.bx d _ eu
    have aiw:=qf
    obtain⟨hl,ho,hs,kY,u,⟨QD,es,clock,hb,_,F8,_,_,fo⟩,hq,_⟩:=qf;obtain⟨q1,q2,q3⟩:=wK F8 oW fo;rw[Ga]at hub hk;have W5:=q3 hub
    have Nk:w.heap[E.m (.s d)]? =some (.map es clock):=by rw[h.heap];exact hb
    obtain⟨u',g1,g2,g3,_⟩:=map_push h.wf aiw oW hcv (by rw[hxv];rfl) (fun r ys e=>by rw[hxv]at e;cases e) hb none (fun i z hz=>by cases hz);have hE:=jl (E:=E) ho hs (.map (es.push {key:=gE kv,val:=a.eval v,born:=clock}) (clock+1))
    have aV:E.m (.s d)<E.h.size:=(Array.getElem?_eq_some_iff.1 hb).1
    have cz: ∀{a0:AV} {x:Value},Cz E a0 x→Cz (E.write (.s d) (.map (es.push {key:=gE kv,val:=a.eval v,born:=clock}) (clock+1))) a0 x:=fun{a0 x} hc=>by
     have:=(hc.ext hE h.wf (fun _=>false) (fX _)).1
     rwa [lb (fun _=>rfl)]at this
    have zy:bM (E.write (.s d) (.map (es.push {key:=gE kv,val:=a.eval v,born:=clock}) (clock+1))) (.s d) (.ow (.mp ks none) none (xs++[kv.map AV.v++[bP s [] v]])):=by
     refine⟨hl,ho,hs,fun q a0 ha=>(g2 q a0 ha).1,u',?_,fun q a0 ha=>cz (g2 q a0 ha).2,g3.mono fun b GY Xa=>?_⟩
     ·have:(E.write (.s d) (.map (es.push {key:=gE kv,val:=a.eval v,born:=clock}) (clock+1))).h[E.m (.s d)]? =some (.map (es.push {key:=gE kv,val:=a.eval v,born:=clock}) (clock+1)):=Array.getElem?_setIfInBounds_self_of_lt aV
      show sS _ _ _ (E.len (.s d)) ((E.write (.s d) _).h[E.m (.s d)]?) _ _;rw[this];exact g1
     ·have ct:b≠E.m (.s d):=fun e=>by rw[e,ho]at GY;cases GY
      refine⟨GY,?_,fun _=>Iff.rfl,rfl⟩;show(E.h.setIfInBounds (E.m (.s d)) _)[b]? =_;rw[Array.getElem?_setIfInBounds_ne (Ne.symm ct)]
    refine sU (w':={w with heap:=w.heap.setIfInBounds (E.m (.s d)) (.map (es.push {key:=gE kv,val:=a.eval v,born:=clock}) (clock+1))}) ?_ ⟨_,_,_,hk,h.pB eu zy rfl ⟨rfl,rfl,rfl⟩ ho hs,.any _⟩;simp only[execOp,he,dD,hv];simp[Instr.mapUpdate,Sem.run_bind,eV hu,qI Nk,kl.check kv oW,kl.find kv es.toList oW q1,W5,MapKept.run_setObj_map _ Nk,Result.andThen]
  ·exact hk.elim
 ·exact hk.elim
end Ab
namespace Ab
open Go
variable{P:Program}{L:nK}{E0 E E':Env}{w0 w w':World}{s:St}{a:Act}{p:Path}{C:dx}
theorem P2{α:Type}(d:Nat)(x y:α): ∀t:List (Nat×α),cT d x (cT d y t)=cT d x t
 |[]=>by simp[cT]
 |(k,z)::r=>by
  simp only[cT];cases h1:bQ k d with
  |true=>simp[cT]
  |false=>
   cases h2:sa d k with
   |true=>simp[cT]
   |false=>simp only[aM,cT,h1,h2,P2 d x y r]
theorem Lt(T:Tok→Bool)(d:Nat)(x:Ob): ∀t,fe T (cT d x t)=cT d (yx T x) (fe T t)
 |[]=>by simp[cT,fe]
 |(k,z)::r=>by
  simp only[cT,fe];cases h1:bQ k d with
  |true=>simp[fe]
  |false=>
   cases h2:sa d k with
   |true=>simp[fe]
   |false=>simp only[aM,fe,Lt T d x r]
theorem Ma{ks:List VK}{st:Option (Nat×Int)}{len:Nat×Nat}{es:Array MapEntry}{clock:Nat}{xs:List (List AV)}{u:Nat→Value}{Ex Ey:Env}{kx ky:Key}(h:sS Ex kx (.mp ks st) len (some (.map es clock)) xs u){i:Nat}{e:MapEntry}(he:es[i]? =some e):sS Ey ky (.mp ks (some (i,(e.born:Int)))) len (some (.map es clock)) xs u:=by
 obtain⟨h1,es',akb,h2,h3,h4,h5,h6,h7⟩:=h;cases h2;exact⟨h1,es,clock,rfl,fun j z hz=>by cases hz;exact⟨e,he,rfl⟩,h4,h5,h6,h7⟩
theorem I2(hL:bj P C.L)(hI:C.I=al)(Y0: ∀t ks,C.keys t=some ks→KeyLaw P t ks)(h:bq E0 E w0 w s a){o:Oper}{t d:Nat}{m k:Operand}(he:o.op= .mapEntry t m k){K:bd}{Q:Exit→Act→World→Prop}(hk:Ny C t d (bP s [] m) (bP s [] k) s K):lz P o a w (fb E0 w0 o a K) Q:=by
 unfold Ny at hk
 split at hk
 ·rename_i ks kt et ti q hko dK;obtain⟨hu,hkk,Kf⟩:=uP hL hko;have kl:=Y0 _ _ hkk
  split at hk
  ·rename_i es0 Tu xs jH eu;cases hf:Db ks (bP s [] k)with
   |false=>rw[hf]at hk;exact hk.elim
   |true=>
    rw[hf,aE]at hk;obtain⟨zs,i,r,ys,⟨e0,hz1,SG,hen⟩,hk⟩:=hk;subst e0;have hx:=h.ev (p:=[]) trivial m
    rw[dK]at hx;cases dD:a.eval m<;>rw[dD]at hx<;>cases hx;obtain⟨kv,hv,oW,Ga⟩:=J6 (h.ev (p:=[]) trivial k) hf;have qf:=h.bx q _ eu
    have aiw:=qf
    obtain⟨hl,ho,hs,kY,u,Bu,hq,ra⟩:=qf;have SO:=Bu
    obtain⟨QD,es,clock,hb,_,F8,_,_,fo⟩:=Bu;rw[hb]at SO;obtain⟨q1,q2,q3⟩:=wK F8 oW fo;have Nk:w.heap[E.m (.s q)]? =some (.map es clock):=by rw[h.heap];exact hb
    have an6:=jv oW
    rw[Ga]at hen;rcases hen with⟨hm,rfl,row,h1,h2⟩|⟨hm,h1,h2,h3,h4⟩
    ·obtain⟨e,g1,g2,g3⟩:=q2 i hm;rw[List.length_map,an6]at h2;have fS:xs.flatten[i*(ks.length+1)+ks.length]? =some (.sl r ys):=by rw[dE QD h1 ks.length (by omega)];exact h2
     obtain⟨E',k1,k2⟩:=B4 h eu (by rw[hb];exact SO) hq ra (p':= .mp ks (some (i,(e.born:Int)))) fS (.l (C.base+d)) rfl (by rw[hb];exact Ma SO g1);obtain⟨Br,f1,f2,f3,f4,f5⟩:=fo i row e h1 g1;have at0:es.modify i (fun e=>{e with key:=gE kv})=es:=by
      apply Array.ext (by simp);intro j j1 j2;rw[Array.getElem_modify]
      split
      ·rename_i hij;subst hij;have:es[i]=e:=by rw[Array.getElem?_eq_getElem j2]at g1;injection g1
       rw[this,←g2]
      ·rfl
     have WZ:w.heap.setIfInBounds (E.m (.s q)) (.map es clock)=w.heap:=by
      apply Array.ext (by simp);intro j j1 j2;by_cases hj:E.m (.s q)=j
      ·subst hj;rw[Array.getElem_setIfInBounds_self];rw[Array.getElem?_eq_getElem j2]at Nk;injection Nk with Nk;exact Nk.symm
      ·rw[Array.getElem_setIfInBounds_ne j2 hj]
     refine cP (x:= .tuple #[e.val,.int .i64 e.born]) (w':=w) ?_ ⟨_,_,E',hk e.born,k1,?_⟩
     ·simp only[execOp,he,dD,hv];simp[Instr.mapEntry,Sem.run_bind,eV hu,qI Nk,kl.check kv oW,kl.find kv es.toList oW q1,g3,g1,g2,Instr.keyThatStays,kl.same kv oW,MapKept.run_setObj_map _ Nk,Result.andThen,at0,WZ,goInt]
     ·exact Cz.gw (E:=E') _ [e.val,.int .i64 e.born] rfl fun j b y dM hy=>by
       match j,dM,hy with
       |0,dM,hy=>simp at dM hy;subst dM;subst hy;have k2':Cz E' (.gs r (.l (C.base+d)) ys) (u (i*(ks.length+1)+ks.length)):=k2;rw[f4]at k2';exact k2'
       |1,dM,hy=>simp at dM hy;subst dM;subst hy;exact .v _
       |j+2,dM,_=>simp at dM
    ·rw[hI]at h1 h2;have h1:xs++[kv.map AV.v++[AV.sl C.ρ []]]=zs:=h1
     have h2:xs.length=i:=h2
     subst h1;subst h2;subst h3;subst h4;have W5:=q3 hm
     obtain⟨u',g1,g2,g3,g4⟩:=map_push h.wf aiw oW (av:= .sl C.ρ []) (v:=gD) (.mq _ _ _) rfl (fun r ys e=>by cases e;exact⟨rfl,rfl⟩) hb none (fun i z hz=>by cases hz);have hE:=jl (E:=E) ho hs (.map (es.push {key:=gE kv,val:=gD,born:=clock}) (clock+1))
     have aV:E.m (.s q)<E.h.size:=(Array.getElem?_eq_some_iff.1 hb).1
     have cz: ∀{a0:AV} {x:Value},Cz E a0 x→Cz (E.write (.s q) (.map (es.push {key:=gE kv,val:=gD,born:=clock}) (clock+1))) a0 x:=fun{a0 x} hc=>by
      have:=(hc.ext hE h.wf (fun _=>false) (fX _)).1
      rwa [lb (fun _=>rfl)]at this
     have AS:(E.write (.s q) (.map (es.push {key:=gE kv,val:=gD,born:=clock}) (clock+1))).h[E.m (.s q)]? =some (.map (es.push {key:=gE kv,val:=gD,born:=clock}) (clock+1)):=Array.getElem?_setIfInBounds_self_of_lt aV
     have W7:Hs (E.write (.s q) (.map (es.push {key:=gE kv,val:=gD,born:=clock}) (clock+1))) (.n q) (ks.length+1) none (xs++[kv.map AV.v++[AV.sl C.ρ []]]) u':=g3.mono fun b GY Xa=>by
      have ct:b≠E.m (.s q):=fun e=>by rw[e,ho]at GY;cases GY
      refine⟨GY,?_,fun _=>Iff.rfl,rfl⟩;show(E.h.setIfInBounds (E.m (.s q)) _)[b]? =_;rw[Array.getElem?_setIfInBounds_ne (Ne.symm ct)]
     have zy:bM (E.write (.s q) (.map (es.push {key:=gE kv,val:=gD,born:=clock}) (clock+1))) (.s q) (.ow (.mp ks none) none (xs++[kv.map AV.v++[AV.sl C.ρ []]])):=by
      refine⟨hl,ho,hs,fun q a0 ha=>(g2 q a0 ha).1,u',?_,fun q a0 ha=>cz (g2 q a0 ha).2,W7⟩;show sS _ _ _ (E.len (.s q)) ((E.write (.s q) _).h[E.m (.s q)]?) _ _;rw[AS];exact g1
     have zx:=h.pB (w':={w with heap:=w.heap.setIfInBounds (E.m (.s q)) (.map (es.push {key:=gE kv,val:=gD,born:=clock}) (clock+1))}) eu zy rfl ⟨rfl,rfl,rfl⟩ ho hs
     have fS:(xs++[kv.map AV.v++[AV.sl C.ρ []]]).flatten[xs.length*(ks.length+1)+ks.length]? =some (.sl C.ρ []):=by
      have hr:=dE (xs:=xs++[kv.map AV.v++[AV.sl C.ρ []]]) (i:=xs.length) (z:=ks.length+1) (cs:=kv.map AV.v++[AV.sl C.ρ []]) (fun l hl=>g1.1 l hl) (by rw[ji (Nat.le_refl _),Nat.sub_self];rfl) ks.length (by omega)
      rw[hr,ji (by rw[List.length_map];omega),List.length_map,an6,Nat.sub_self];rfl
     obtain⟨E',k1,k2⟩:=B4 zx (bR q _ _) (u:=u') (by show sS _ _ _ _ ((E.write (.s q) _).h[E.m (.s q)]?) _ _;rw[AS];exact g1) (fun q a0 ha=>cz (g2 q a0 ha).2) W7 (p':= .mp ks (some (xs.length,(clock:Int)))) fS (.l (C.base+d)) rfl
      (by show sS _ _ _ _ ((E.write (.s q) _).h[E.m (.s q)]?) _ _;rw[AS];exact Ma g1 (i:=xs.length) (e:={key:=gE kv,val:=gD,born:=clock}) (by rw[←F8];simp))
     obtain⟨ii,dd,zz,i1,i2,i3,i4,i5,i6,i7⟩:=(hL.ok _ _ Kf).ex;have hzv:zz=gD:=by
      rw[SG]at i5;(cases zz<;>first|(simp[Value.cells]at i5;exact i5)|skip);exfalso;have tM:ti.agg=false:=by unfold TI.agg;rw[jH]
      have:=(hL.ok _ _ Kf).zv tM ii _ i1 i4
      cases this
     have hzr:(zeroValue et).run P w= .ok gD w:=by
      unfold zeroValue;simp[Sem.run_bind,typeInfo,program,Sem.run,Result.andThen,i1,i4,hzv]
     refine cP (x:= .tuple #[gD,.int .i64 clock]) (w':={w with heap:=w.heap.setIfInBounds (E.m (.s q)) (.map (es.push {key:=gE kv,val:=gD,born:=clock}) (clock+1))}) ?_ ⟨_,_,E',hk clock,?_,?_⟩
     ·simp only[execOp,he,dD,hv];simp[Instr.mapEntry,Sem.run_bind,eV hu,qI Nk,kl.check kv oW,kl.find kv es.toList oW q1,W5,hzr,MapKept.run_setObj_map _ Nk,Result.andThen,goInt]
     ·have e:cT q (Ob.ow (.mp ks (some (xs.length,(clock:Int)))) (some (xs.length,ks.length)) (xs++[kv.map AV.v++[AV.sl C.ρ []]])) (fe (aX (.n q)) (cT q (Ob.ow (.mp ks none) none (xs++[kv.map AV.v++[AV.sl C.ρ []]])) s.b))=cT q (Ob.ow (.mp ks (some (xs.length,(clock:Int)))) (some (xs.length,ks.length)) (xs++[kv.map AV.v++[AV.sl C.ρ []]])) (fe (aX (.n q)) s.b):=by
       rw[Lt,P2]
      have k1':=k1
      rw[e]at k1';exact k1'
     ·exact Cz.gw (E:=E') _ [gD,.int .i64 clock] rfl fun j b y dM hy=>by
       match j,dM,hy with
       |0,dM,hy=>simp at dM hy;subst dM;subst hy;have k2':Cz E' (.gs C.ρ (.l (C.base+d)) []) (u' (xs.length*(ks.length+1)+ks.length)):=k2;rw[g4]at k2';exact k2'
       |1,dM,hy=>simp at dM hy;subst dM;subst hy;exact .v _
       |j+2,dM,_=>simp at dM
  ·exact hk.elim
 ·exact hk.elim
theorem Kj{es:Array MapEntry}{i:Nat}{e:MapEntry}(he:es[i]? =some e)(tI: ∀(i j:Nat) (e e':MapEntry),es[i]? =some e→es[j]? =some e'→e.born=e'.born→i=j):es.findIdx? (fun x=>(x.born:Int)==(e.born:Int))=some i:=by
 have aV:=(Array.getElem?_eq_some_iff.1 he).1
 have hei:es[i]=e:=by rw[Array.getElem?_eq_getElem aV]at he;injection he
 rw[Array.findIdx?_eq_some_iff_getElem];refine⟨aV,by rw[hei];simp,fun j hj=>?_⟩;have hj':j<es.size:=by omega
 intro hh;have hb:es[j].born=e.born:=by
  have:((es[j].born:Nat):Int)=(e.born:Int):=by simpa using hh
  omega
 have:=tI j i es[j] e (by simp[hj']) he hb
 omega
theorem BB(hI:C.I=al)(h:bq E0 E w0 w s a){o:Oper}{t:Nat}{m st v:Operand}(he:o.op= .entryStore t m st v){K:bd}{Q:Exit→Act→World→Prop}(hk:yW C (bP s [] m) (bP s [] st) (bP s [] v) s K):lz P o a w (fb E0 w0 o a K) Q:=by
 unfold yW at hk
 split at hk
 ·rename_i d z r tk ys hm0 hs0 hv0
  split at hk
  ·rename_i ks i z' j off xs eu;obtain⟨QC,e0,zs,⟨e1,e2,cs,e3,e5⟩,hk⟩:=hk;subst e0;subst e1;subst e2;rw[hI]at e5;have e5:xs.set i (bF cs ks.length [.sl r ys])=zs:=e5
   subst e5;have hx:=h.ev (p:=[]) trivial m
   rw[hm0]at hx;cases dD:a.eval m<;>rw[dD]at hx<;>cases hx;have er:=h.ev (p:=[]) trivial st
   rw[hs0]at er;have atx:a.eval st= .int .i64 z:=by
    generalize a.eval st=sv at er;cases er;rfl
   have hy:=h.ev (p:=[]) trivial v
   rw[hv0]at hy;generalize hav:a.eval v=y at hy;obtain⟨hl,ho,hs,kY,u,⟨QD,es,clock,hb,atv,F8,hbn,tI,fo⟩,hq,ra⟩:=h.bx d _ eu;obtain⟨e,he1,he2⟩:=atv i z rfl;have fS:=aB QD
   have vR:i<xs.length:=(bh.1 e3).1
   have zB:cs.length=ks.length+1:=QD cs (jK e3)
   have hmul:i*(ks.length+1)+(ks.length+1)≤xs.length*(ks.length+1):=by rw[←Nat.succ_mul];exact Nat.mul_le_mul_right _ vR
   have WY:tk≠ .n d:=fun e=>by subst e;cases QC
   have h1:=h.dm tk (.n d) QC
   have zw:=hy.dm (t':= .n d) h.wf
   have F4:look d (fe (aX tk) s.b)=some (.ow (.mp ks (some (i,z))) (some (i,ks.length)) xs):=by rw[cE,eu];rfl
   have ho1:(E.dm tk (.n d)).own ((E.dm tk (.n d)).m (.s d))= .key (.s d):=(sZ (by rw[show(E.dm tk (.n d)).m (.s d)=E.m (.s d)from rfl,ho];simp)).trans ho
   have hE:=jl (E:=E.dm tk (.n d)) ho1 hs (.map (es.modify i fun e=>{e with val:=y}) clock)
   have cz1: ∀{a:AV} {x:Value},bX a=true→Cz E a x→Cz (E.dm tk (.n d)) a x:=fun{a x} hi hc=>(hc.ext (s7 tk (.n d)) h.wf (aX tk) (fun q' vG=>(kB _ _).2 (by cases vG;rfl))).2 hi
   have cz2: ∀{a:AV} {x:Value},Cz (E.dm tk (.n d)) a x→Cz ((E.dm tk (.n d)).write (.s d) (.map (es.modify i fun e=>{e with val:=y}) clock)) a x:=fun{a x} hc=>by
    have:=(hc.ext hE h1.wf (fun _=>false) (fX _)).1
    rwa [lb (fun _=>rfl)]at this
   have hxl: ∀l∈xs.set i (bF cs ks.length [.sl r ys]),l.length=ks.length+1:=fun l rB=>by
    rcases List.mem_or_eq_of_mem_set rB with h1|h1
    ·exact QD l h1
    ·rw[h1,jm (by simp;omega)];exact zB
   have WZ:(xs.set i (bF cs ks.length [.sl r ys])).flatten=bF xs.flatten (i*(ks.length+1)+ks.length) [.sl r ys]:=oZ QD e3 (by simp)
   have yd: ∀q',(xs.set i (bF cs ks.length [.sl r ys])).flatten[q']? =if q'=i*(ks.length+1)+ks.length then some (.sl r ys)else xs.flatten[q']? :=fun q'=>by
    rw[WZ];exact E7 (by omega) q'
   have AS:E.m (.s d)<E.h.size:=(Array.getElem?_eq_some_iff.1 hb).1
   have W8: ∀k:Nat,(es.modify i fun e=>{e with val:=y})[k]? =(es[k]?).map fun e=>if i=k then{e with val:=y}else e:=fun k=>by
    rw[Array.getElem?_modify];by_cases DN:i=k
    ·rw[if_pos DN];simp[DN]
    ·rw[if_neg DN];simp[DN]
   have qf:bM ((E.dm tk (.n d)).write (.s d) (.map (es.modify i fun e=>{e with val:=y}) clock)) (.s d) (.ow (.mp ks none) none (xs.set i (bF cs ks.length [.sl r ys]))):=by
    refine⟨hl,ho1,hs,fun q' a' ha=>?_,fun q'=>if q'=i*(ks.length+1)+ks.length then y else u q',⟨hxl,es.modify i fun e=>{e with val:=y},clock,?_,(fun i z hz=>by cases hz),?_,fun k e' kh=>?_,fun k k' e' e'' kh Xe tK=>?_,fun k row e' Bt kh=>?_⟩,fun q' a' ha=>?_,?_⟩
    ·rw[yd]at ha
     split at ha
     ·cases ha;rfl
     ·exact kY q' a' ha
    ·have:(E.dm tk (.n d)).m (.s d)=E.m (.s d):=rfl
     simp only[Env.write];rw[this];exact Array.getElem?_setIfInBounds_self_of_lt AS
    ·rw[Array.size_modify,List.length_set];exact F8
    ·rw[W8]at kh;cases TB:es[k]? with
     |none=>rw[TB]at kh;cases kh
     |some x=>rw[TB]at kh;cases kh;have:=hbn k x TB;split<;>exact this
    ·rw[W8]at kh Xe;cases TB:es[k]? with
     |none=>rw[TB]at kh;cases kh
     |some x=>
      cases aiS:es[k']? with
      |none=>rw[aiS]at Xe;cases Xe
      |some x'=>
       rw[TB]at kh;rw[aiS]at Xe;cases kh;cases Xe;refine tI k k' x x' TB aiS ?_;have b1:(if i=k then{x with val:=y}else x:MapEntry).born=x.born:=by split<;>rfl
       have b2:(if i=k' then{x' with val:=y}else x':MapEntry).born=x'.born:=by split<;>rfl
       rw[←b1,←b2];exact tK
    ·rw[W8]at kh;cases TB:es[k]? with
     |none=>rw[TB]at kh;cases kh
     |some x=>
      rw[TB]at kh;cases kh;rw[List.getElem?_set]at Bt;have adA: ∀{k1 k2 j1 j2:Nat},k1≠k2→j1≤ks.length→j2≤ks.length→k1*(ks.length+1)+j1≠k2*(ks.length+1)+j2:=by
       intro k1 k2 j1 j2 ct h1 h2 heq;rcases Nat.lt_or_gt_of_ne ct with aV|aV
       ·have:=Nat.mul_le_mul_right (ks.length+1) aV
        rw[Nat.succ_mul]at this;omega
       ·have:=Nat.mul_le_mul_right (ks.length+1) aV
        rw[Nat.succ_mul]at this;omega
      by_cases DN:i=k
      ·subst DN;rw[if_pos rfl,if_pos vR]at Bt;cases Bt;obtain⟨kv,f1,f2,f3,f4,f5⟩:=fo i cs x e3 TB;refine⟨kv,f1,?_,by dsimp only;rw[if_pos rfl];exact f3,by dsimp only;rw[if_pos rfl,if_pos rfl],fun j x' hx=>?_⟩
       ·rw[←f2];unfold bF;rw[List.append_assoc,List.take_append_of_le_length (by rw[List.length_take];omega),List.take_take,Nat.min_self]
       ·have hj:=(bh.1 hx).1
        rw[jv f1]at hj;dsimp only;rw[if_neg (by omega)];exact f5 j x' hx
      ·rw[if_neg DN]at Bt;obtain⟨kv,f1,f2,f3,f4,f5⟩:=fo k row x Bt TB;refine⟨kv,f1,f2,by dsimp only;rw[if_neg DN];exact f3,?_,fun j x' hx=>?_⟩
       ·dsimp only;rw[if_neg (adA (fun e=>DN e.symm) (Nat.le_refl _) (Nat.le_refl _)),if_neg DN];exact f4
       ·have hj:=(bh.1 hx).1
        rw[jv f1]at hj;dsimp only;rw[if_neg (adA (fun e=>DN e.symm) (by omega) (Nat.le_refl _))];exact f5 j x' hx
    ·rw[yd]at ha;dsimp only;by_cases e:q'=i*(ks.length+1)+ks.length
     ·rw[if_pos e]at ha ⊢;cases ha;exact cz2 zw.read
     ·rw[if_neg e]at ha ⊢;exact cz2 (cz1 (kY q' a' ha) (hq q' a' ha))
    ·refine L6 (z:=ks.length+1) (r:=r) (ys:=ys) ra (fun q'=>?_) ?_ (fun b hb aV=>?_) (fun b hbv=>?_)
     ·rw[yd];by_cases e:q'=i*(ks.length+1)+ks.length
      ·rw[if_pos e,if_pos e,if_pos (by omega)]
      ·rw[if_neg e,if_neg e]
     ·exact rU (cz2 zw)
     ·have ct:b≠E.m (.s d):=fun e=>by rw[e,ho]at hb;cases hb
      refine⟨(sZ (by rw[hb];intro e;injection e with e;exact WY e.symm)).trans hb,?_,fun _=>Iff.rfl,rfl⟩;show(E.h.setIfInBounds (E.m (.s d)) _)[b]? =_;rw[Array.getElem?_setIfInBounds_ne (Ne.symm ct)]
     ·intro e;have:=(sY (rU hy) hbv).1
      rw[this]at e;injection e with e;exact WY e
   have Nk:w.heap[E.m (.s d)]? =some (.map es clock):=by rw[h.heap];exact hb
   refine sU (w':={w with heap:=w.heap.setIfInBounds (E.m (.s d)) (.map (es.modify i fun e=>{e with val:=y}) clock)}) ?_ ⟨_,_,_,hk,h1.pB F4 qf rfl ⟨rfl,rfl,rfl⟩ ho1 hs,.any _⟩;have hfi:=Kj he1 tI
   rw[he2]at hfi;simp only[execOp,he,dD,hav,atx];simp[Instr.entryStore,Sem.run_bind,qI Nk,asInt,asIntOf,hfi,MapKept.run_setObj_map _ Nk,Result.andThen]
  ·exact hk.elim
 ·exact hk.elim
theorem rS{av:AV}{v:Value}{xs:List AV}{ks:List VK}(hc:Cz E av v)(hv:CG av=some xs)(hf:nW ks xs=true): ∃kv:List Value,xs=kv.map .v∧bE ks kv=true∧v= .agg kv.toArray:=by
 obtain⟨kv,h1,h2⟩:=AY hf;refine⟨kv,h1,h2,?_⟩;cases av<;>simp only[CG,Option.some.injEq]at hv<;>try(cases hv;done)
 ·subst hv;cases hc with
  |ar n z xs ys hn hz hl hi hq=>
   have:ys=kv:=Jg (E:=E) (by
    have h3:=aB hz
    rw[h1]at h3;simp at h3;rw[hl,h3,hn]) (fun q a y ha hy=>hq q a y (by rw[h1];exact ha) hy)
   rw[this]
 ·subst hv;cases hc with
  |agg cs ys hl hq=>
   subst h1;have:ys=kv:=Jg (E:=E) (by simpa using hl) hq
   rw[this]
theorem Rn(hI:C.I=al)(sg: ∀t ks,C.eqs t=some ks→vJ P t ks)(h:bq E0 E w0 w s a){o:Oper}{t:Nat}{x y:Operand}{neg:Bool}{ty:Nat}(he:o.op= .binOp (bif neg then .neq else .eql) t x y ty){K:bd}(hk:xEq C p neg t (bP s p x) (bP s p y) s K):Reads P E w a o s p K:=by
 obtain⟨b,hub,hk⟩:=hk;rw[hI]at hk;refine⟨_,hk,fun hp=>?_⟩;obtain⟨Ip,TA,xs,ys,DL,zw,hb⟩:=bC hub hp;obtain⟨ks,hks,aiN⟩: ∃ks,C.eqs t=some ks∧nW ks xs=true:=by
  unfold sk at Ip;cases hk:C.eqs t with
  |none=>rw[hk]at Ip;cases dK:bP s p x<;>rw[dK]at Ip<;>exact Ip.elim
  |some ks=>
   rw[hk]at Ip;refine⟨ks,rfl,?_⟩;cases dK:bP s p x<;>rw[dK]at Ip DL<;>simp only[CG,Option.some.injEq]at DL<;>first|exact Ip.elim|(subst DL;exact Ip)|(cases DL)
 have aiM:nW ks ys=true:=by
  unfold sk at TA;rw[hks]at TA;cases dK:bP s p y<;>rw[dK]at TA zw<;>simp only[CG,Option.some.injEq]at zw<;>first|exact TA.elim|(subst zw;exact TA)|(cases zw)
 obtain⟨kv,h1,h2,h3⟩:=rS (h.ev hp x) DL aiN;obtain⟨Br,h4,h5,h6⟩:=rS (h.ev hp y) zw aiM;have law:=sg t ks hks
 obtain⟨b',dM,eB⟩:=law.eq kv Br h2 h5;have tK:b'=b:=by
  have:b'=true↔b=true:=by
   rw[dM,hb,h1,h4];exact⟨fun e=>by rw[e],BZ⟩
  cases b<;>cases b'<;>simp_all
 subst tK;cases neg with
 |false=>
  refine⟨.bool b',?_,.v _⟩;simp only[execOp,he,aM,h3,h6];simp[Sem.run_bind,run_eqGuard_agg _ _ _ _ _ _ _ law.guard,run_eql_struct,eB,Result.andThen]
 |true=>
  refine⟨.bool (!b'),?_,.v _⟩;simp only[execOp,he,aE,h3,h6];simp[Sem.run_bind,run_eqGuard_agg _ _ _ _ _ _ _ law.guard,run_neq_struct,eB,Result.andThen]
theorem Zb(sg: ∀t ks,C.eqs t=some ks→vJ P t ks)(h:bq E0 E w0 w s a){o:Oper}{t:Nat}{x y:Operand}{neg:Bool}{ty:Nat}(he:o.op= .binOp (bif neg then .neq else .eql) t x y ty){K:bd}(hk:xEq C p neg t (bP s p x) (bP s p y) s K)(hp:bc s p){v:Value}
  (hr:(execOp a.eval o).run P w= .ok (.value v) w)(w':World):(execOp a.eval o).run P w'= .ok (.value v) w':=by
 obtain⟨b,hub,hk⟩:=hk;obtain⟨Ip,TA,xs,ys,DL,zw,hb⟩:=bC hub hp;obtain⟨ks,hks,aiN⟩: ∃ks,C.eqs t=some ks∧nW ks xs=true:=by
  unfold sk at Ip;cases hk:C.eqs t with
  |none=>rw[hk]at Ip;cases dK:bP s p x<;>rw[dK]at Ip<;>exact Ip.elim
  |some ks=>
   rw[hk]at Ip;refine⟨ks,rfl,?_⟩;cases dK:bP s p x<;>rw[dK]at Ip DL<;>simp only[CG,Option.some.injEq]at DL<;>first|exact Ip.elim|(subst DL;exact Ip)|(cases DL)
 have aiM:nW ks ys=true:=by
  unfold sk at TA;rw[hks]at TA;cases dK:bP s p y<;>rw[dK]at TA zw<;>simp only[CG,Option.some.injEq]at zw<;>first|exact TA.elim|(subst zw;exact TA)|(cases zw)
 obtain⟨kv,h1,h2,h3⟩:=rS (h.ev hp x) DL aiN;obtain⟨Br,h4,h5,h6⟩:=rS (h.ev hp y) zw aiM;have law:=sg t ks hks
 obtain⟨b',dM,eB⟩:=law.eq kv Br h2 h5;have key: ∃v',∀w,(execOp a.eval o).run P w= .ok (.value v') w:=by
  cases neg with
  |false=>
   refine⟨.bool b',fun w=>?_⟩;simp only[execOp,he,aM,h3,h6];simp[Sem.run_bind,run_eqGuard_agg _ _ _ _ _ _ _ law.guard,run_eql_struct,eB,Result.andThen]
  |true=>
   refine⟨.bool (!b'),fun w=>?_⟩;simp only[execOp,he,aE,h3,h6];simp[Sem.run_bind,run_eqGuard_agg _ _ _ _ _ _ _ law.guard,run_neq_struct,eB,Result.andThen]
 obtain⟨v',hv'⟩:=key;rw[hv' w]at hr;cases hr;exact hv' w'
theorem O7(hL:bj P L){t:Nat}(h:xO L t=true):P.underlying t=some .bool:=by
 unfold xO at h
 split at h
 ·rename_i ti rE
  split at h
  ·rename_i hk;obtain⟨i,d,z,_,_,_,_,_,h7,h8⟩:=(hL.ok t ti rE).ex;rw[hk]at h8;rw[h7];exact congrArg some h8
  ·cases h
 ·cases h
theorem Ms(hL:bj P L){t:Nat}(h:tC L t=true): ∃e,P.underlying t=some (.slice e):=by
 unfold tC at h
 split at h
 ·rename_i ti rE
  split at h
  ·rename_i e hk;obtain⟨i,d,z,_,_,_,_,_,h7,h8⟩:=(hL.ok t ti rE).ex;rw[hk]at h8;exact⟨e,by rw[h7];exact congrArg some h8⟩
  ·cases h
 ·cases h
theorem Gb(op:BinOp)(t:Nat)(x y:Operand)(a b:Bool)(w:World):(eqGuard op t x y (.bool a) (.bool b)).run P w= .ok () w:=by
 unfold eqGuard
 split<;>rfl
theorem C8(op:BinOp)(t:Nat)(x y:Operand)(A B:Option Addr)(n c m k:Nat)(w:World):(eqGuard op t x y (.slice A n c) (.slice B m k)).run P w= .ok () w:=by
 unfold eqGuard
 split<;>rfl
theorem K0(hL:bj P C.L)(h:bq E0 E w0 w s a){o:Oper}{t:Nat}{x y:Operand}{neg:Bool}{ty:Nat}(he:o.op= .binOp (bif neg then .neq else .eql) t x y ty):
  (∀u v,bP s p x= .v (.bool u)→bP s p y= .v (.bool v)→xO C.L t=true→bc s p→ ∀w',(execOp a.eval o).run P w'= .ok (.value (.bool (bif neg then !(u==v)else u==v))) w')∧
  (∀r xs,bP s p x= .sl r xs→bP s p y= .v (.slice none 0 0)→tC C.L t=true→bc s p→ ∃b:Bool,(b=true→xs.length=0)∧ ∀w',(execOp a.eval o).run P w'= .ok (.value (.bool (bif neg then !b else b))) w'):=by
 refine⟨fun u v hx hy hb hp w'=>?_,fun r xs hx hy hb hp=>?_⟩
 ·have h1:=h.ev hp x
  have h2:=h.ev hp y
  rw[hx]at h1;rw[hy]at h2;have e1:a.eval x= .bool u:=by generalize a.eval x=z at h1;cases h1;rfl
  have e2:a.eval y= .bool v:=by generalize a.eval y=z at h2;cases h2;rfl
  have hu:=O7 hL hb
  cases neg with
  |false=>simp only[execOp,he,aM,e1,e2];simp[Sem.run_bind,Gb,run_eql_bool _ _ _ _ hu,Result.andThen]
  |true=>simp only[execOp,he,aE,e1,e2];simp[Sem.run_bind,Gb,run_neq_bool _ _ _ _ hu,Result.andThen]
 ·have h1:=h.ev hp x
  have h2:=h.ev hp y
  rw[hx]at h1;rw[hy]at h2;have e2:a.eval y= .slice none 0 0:=by generalize a.eval y=z at h2;cases h2;rfl
  obtain⟨e,hu⟩:=Ms hL hb;obtain⟨A,n,c,e1,hA⟩: ∃A n c,a.eval x= .slice A n c∧(A.isNone=true→xs.length=0):=by
   generalize a.eval x=z at h1;cases h1 with
   |mq r A c=>exact⟨A,0,c,rfl,fun _=>rfl⟩
   |sl r xs z b o c u hp=>exact⟨_,_,_,rfl,fun hh=>by simp at hh⟩
  refine⟨A.isNone,hA,fun w'=>?_⟩;have r1:(binOp .eql t (.slice A n c) (.slice none 0 0)).run P w'= .ok (.bool A.isNone) w':=Go.Lib.run_eql_slice_nil w' t e A n c 0 0 hu
  cases neg with
  |false=>simp only[execOp,he,aM,e1,e2];simp[Sem.run_bind,C8,r1,Result.andThen]
  |true=>simp only[execOp,he,aE,e1,e2];simp[Sem.run_bind,C8,run_neq_slice_nil w' t e A n c hu,Result.andThen]
theorem nY(hI:C.I=al)(hL:bj P C.L)(sg: ∀t ks,C.eqs t=some ks→vJ P t ks)(h:bq E0 E w0 w s a){o:Oper}{t:Nat}{x y:Operand}{neg:Bool}{ty:Nat}(he:o.op= .binOp (bif neg then .neq else .eql) t x y ty){K:bd}(hk:Ro C p neg t (bP s p x) (bP s p y) s K):Reads P E w a o s p K:=by
 obtain⟨r1,r2⟩:=K0 (p:=p) hL h he;unfold Ro at hk
 split at hk
 ·rename_i u v hx hy;cases hb:xO C.L t with
  |false=>rw[hb]at hk;exact hk.elim
  |true=>
   rw[hb,aE,hI]at hk;refine⟨_,hk,fun hp=>⟨_,r1 u v hx hy hb hp w,?_⟩⟩;cases neg<;>exact .v _
 ·rename_i r xs hx hy;cases hb:tC C.L t with
  |false=>rw[hb]at hk;exact hk.elim
  |true=>
   rw[hb,aE]at hk;by_cases hp:bc s p
   ·obtain⟨b,ye,DO⟩:=r2 r xs hx hy hb hp;have hu:under s p (b=true→C.I.fR xs=0):=by
     unfold under;rw[hI]
     split
     ·exact ye
     ·exact fun _=>ye
    refine⟨_,hk b hu,fun _=>⟨_,DO w,?_⟩⟩;rw[hI];cases neg<;>exact .v _
   ·have hu:under s p (false=true→C.I.fR xs=0):=by
     unfold under
     split
     ·exact fun e=>by cases e
     ·exact fun _ e=>by cases e
    exact⟨_,hk false hu,fun hp'=>absurd hp' hp⟩
 ·exact Rn hI sg h he hk
theorem K1(hL:bj P C.L)(sg: ∀t ks,C.eqs t=some ks→vJ P t ks)(h:bq E0 E w0 w s a){o:Oper}{t:Nat}{x y:Operand}{neg:Bool}{ty:Nat}(he:o.op= .binOp (bif neg then .neq else .eql) t x y ty){K:bd}(hk:Ro C p neg t (bP s p x) (bP s p y) s K)(hp:bc s p){v:Value}
  (hr:(execOp a.eval o).run P w= .ok (.value v) w)(w':World):(execOp a.eval o).run P w'= .ok (.value v) w':=by
 obtain⟨r1,r2⟩:=K0 (p:=p) hL h he;unfold Ro at hk
 split at hk
 ·rename_i u v' hx hy;cases hb:xO C.L t with
  |false=>rw[hb]at hk;exact hk.elim
  |true=>
   rw[r1 u v' hx hy hb hp w]at hr;cases hr;exact r1 u v' hx hy hb hp w'
 ·rename_i r xs hx hy;cases hb:tC C.L t with
  |false=>rw[hb]at hk;exact hk.elim
  |true=>
   obtain⟨b,ye,DO⟩:=r2 r xs hx hy hb hp;rw[DO w]at hr;cases hr;exact DO w'
 ·exact Zb sg h he hk hp hr w'
theorem ug(hL:bj P C.L)(hI:C.I=al)(h:bq E0 E w0 w s a){o:Oper}{t:Nat}{x:Operand}(he:o.op= .load t x){K:bd}(hk:Nw C p t (bP s p x) s K):Reads P E w a o s p K:=by
 unfold Nw at hk;have fin: ∀v y,a.eval x=v→(Instr.loadAt t v).run P w= .ok y w→(execOp a.eval o).run P w= .ok (.value y) w:=fun v y hv hy=>by
  simp only[execOp,he,hv];simp[hy]
 split at hk
 ·rename_i d i off z dK
  split at hk
  ·rename_i z' ys eu;cases ht:C.L t with
   |none=>rw[ht]at hk;exact hk.elim
   |some ti=>
    rw[ht]at hk;dsimp only at hk;cases hc:(bQ off 0&&(bQ ti.size 1&&(bQ z 1&& !ti.agg)))with
    |false=>rw[hc]at hk;exact hk.elim
    |true=>
     rw[hc,aE]at hk;simp only[Bool.and_eq_true,Ko,Bool.not_eq_true']at hc;obtain⟨c1,c2,c3,c4⟩:=hc;subst c1;subst c3;obtain⟨j,hg,hk⟩:=hk;refine⟨_,hk,fun hp=>?_⟩;obtain⟨row,g1,g2,g3⟩:=bC hg hp;have hx:=h.ev hp x
     rw[dK]at hx;cases dD:a.eval x<;>rw[dD]at hx<;>cases hx;obtain⟨hl,ho,hs,kY,u,⟨WX,dw,nQ,hle,hm,⟨c,e,hb,dg,fo⟩,Iq⟩,hq,_⟩:=h.bx d _ eu;obtain⟨v,g4,g5⟩:=fo i row g1;have ig:part ti [.eW (.r d i) j] 0=some (.eW (.r d i) j):=by
      unfold part;rw[c2,c4];rfl
     have Pj:Cz E (.eW (.r d i) j) v:=by
      cases row with
      |nil=>simp at g2;omega
      |cons b r=>
       obtain⟨k1,k2,k3,k4,_⟩:=g5;have k2:E.len (.r d i)=(r.length+1,r.length+1):=k2
       have g2:j=r.length+1:=by simpa using g2.symm
       subst g2;have:=Cz.eW (E:=E) (.r d i) (r.length+1) k1 (by rw[k2];exact Nat.le_refl _) (by rw[k2];exact Nat.le_refl _) (by rw[k2];exact k3)
       rw[k2]at this;rw[k4];exact this
     obtain⟨y,q1,q2⟩:=gU (P:=P) (E:=E) (w:=w) hL ht (b:=E.m (.s d)) (o:=i) ig (fun q a' ha=>by
      have:q=0:=by have:=(bh.1 ha).1;simpa using this
      subst this;simp only[List.getElem?_cons_zero,Option.some.injEq]at ha;subst ha;exact⟨v,by simp[aO,h.heap,hb,g4],Pj⟩)
     exact⟨y,fin _ _ dD (by simpa using q1),q2⟩
  ·exact v7 hL hI h he hk
 ·rename_i d i j off z dK
  split at hk
  ·rename_i ti z' ys ht eu;cases hc:bQ z z' with
   |false=>rw[hc]at hk;exact hk.elim
   |true=>
    rw[hc,aE]at hk;have hc:=cY hc
    subst hc;obtain⟨cs,r,hg,ig,hk⟩:=hk;refine⟨_,hk,fun hp=>?_⟩;obtain⟨row,g1,g2⟩:=bC hg hp;have hx:=h.ev hp x
    rw[dK]at hx;cases dD:a.eval x<;>rw[dD]at hx<;>cases hx;obtain⟨hl,ho,hs,kY,u,⟨WX,dw,nQ,hle,hm,⟨c,e,hb,dg,fo⟩,Iq⟩,hq,_⟩:=h.bx d _ eu;obtain⟨v,g4,g5⟩:=fo i row g1;cases row with
    |nil=>simp at g2
    |cons b rr=>
     obtain⟨k1,k2,k3,k4,k5,k6,c',e',k7,k8,k9,Tv⟩:=g5;have zB:cs.length=z:=k9 cs (jK g2)
     obtain⟨y,q1,q2⟩:=gU (P:=P) (E:=E) (w:=w) hL ht (b:=E.m (.r d i)) (o:=j*z) ig (fun q a' ha=>by
      have vG:q<z:=by rw[←zB];exact(bh.1 ha).1
      have hfa:(b::rr).flatten[j*z+q]? =some a':=by rw[dE k9 g2 q vG];exact ha
      obtain⟨y,zw,hy2⟩:=Tv _ _ hfa;have k7:E.h[E.m (.r d i)]? =some (.cells c' e' (0,0)):=k7
      refine⟨y,?_,by subst zw;exact .v _⟩;rw[h.heap];unfold aO;rw[k7];exact hy2)
     exact⟨y,fin _ _ dD q1,q2⟩
  ·exact hk.elim
 ·exact v7 hL hI h he hk
def Env.qz(E:Env)(b:Nat)(o:Obj):Env:={E with h:=E.h.setIfInBounds b o}
theorem NA{b:Nat}{o:Obj}{t:Tok}(hw:Wf E)(ho:E.own b= .tok t)(hs: ∀o,¬E.aI b o):Ext (fun x=>x= .tok t) E (E.qz b o):=by
 refine⟨by simp[Env.qz],fun b' o' h=>?_,fun k h=>⟨h,rfl,rfl⟩,fun b' hb hn=>?_⟩
 ·have ct:b≠b':=fun e=>by subst e;exact hs _ h
  exact⟨h,by simp only[Env.qz,aO];rw[Array.getElem?_setIfInBounds_ne ct],rfl⟩
 ·have ct:b≠b':=fun e=>by subst e;exact hn ho
  exact⟨rfl,by simp only[Env.qz];rw[Array.getElem?_setIfInBounds_ne ct],fun _=>Iff.rfl,rfl⟩
theorem Rq{b:Nat}{c c':Array Value}{e:Nat}(hw:Wf E)(hb:E.h[b]? =some (.cells c e (0,0))):Wf (E.qz b (.cells c' e (0,0))):=by
 refine⟨fun b' o h=>by simp only[Env.qz,Array.size_setIfInBounds];exact hw.aI b' o h,fun b' h=>by simp only[Env.qz,Array.size_setIfInBounds];exact hw.own b' h,fun b' o h hr=>?_⟩;obtain⟨c1,e1,h1⟩:=hw.fz b' o h hr;by_cases ct:b=b'
 ·subst ct;exact⟨c',e,by simp only[Env.qz];simp[(Array.getElem?_eq_some_iff.1 hb).1]⟩
 ·exact⟨c1,e1,by simp only[Env.qz];rw[Array.getElem?_setIfInBounds_ne ct];exact h1⟩
structure Rd(E:Env)(d i z:Nat)(row:List (List AV))(c:Array Value)(e:Nat):Prop where
 live:E.live (.r d i)
 len:E.len (.r d i)=(row.length,row.length)
 max:row.length≤maxLen
 own:E.own (E.m (.r d i))= .tok (.n d)
 aI: ∀o,¬E.aI (E.m (.r d i)) o
 IE:E.h[E.m (.r d i)]? =some (.cells c e (0,0))
 size:c.size=row.length*z
 z: ∀l∈row,l.length=z
 val: ∀(q:Nat) (b:AV),row.flatten[q]? =some b→ ∃y,b= .v y∧c[q]? =some y
theorem NX{d i z:Nat}{row:List (List AV)}{x:Value}(h:M6 E (.s d) i z row x)(hr:1≤row.length): ∃c e,Rd E d i z row c e∧x= .slice (some ⟨E.m (.r d i),0,none⟩) row.length row.length:=by
 cases row with
 |nil=>simp at hr
 |cons a r=>
  obtain⟨k1,k2,k3,k4,k5,k6,c,e,k7,k8,k9,Tv⟩:=h;exact⟨c,e,⟨k1,k2,k3,k5,k6,k7,k8,k9,Tv⟩,k4⟩
theorem PE{d i z:Nat}{row:List (List AV)}{x:Value}{c:Array Value}{e:Nat}(h:Rd E d i z row c e)(hr:1≤row.length)(hx:x= .slice (some ⟨E.m (.r d i),0,none⟩) row.length row.length):M6 E (.s d) i z row x:=by
 cases row with
 |nil=>simp at hr
 |cons a r=>exact⟨h.live,h.len,h.max,hx,h.own,h.aI,c,e,h.IE,h.size,h.z,h.val⟩
theorem Xs{d i z:Nat}{ys:List (List (List AV))}{row row':List (List AV)}{c c':Array Value}{e:Nat}(hw:Wf E)(qf:bM E (.s d) (.ow (.g2 z ys) none []))(hi:ys[i]? =some row)(hr:1≤row.length)(Bv:Rd E d i z row c e)
  (hlen:row'.length=row.length)(vF: ∀l∈row',l.length=z)(dg:c'.size=c.size)(jM: ∀(q:Nat) (b:AV),row'.flatten[q]? =some b→ ∃y,b= .v y∧c'[q]? =some y):
  bM (E.qz (E.m (.r d i)) (.cells c' e (0,0))) (.s d) (.ow (.g2 z (ys.set i row')) none []):=by
 obtain⟨hl,ho,hs,kY,u,⟨WX,dw,nQ,hle,hm,⟨c0,e0,hb,abh,fo⟩,Iq⟩,hq,ra⟩:=qf;have ct:E.m (.r d i)≠E.m (.s d):=fun hh=>by have:=Bv.own;rw[hh,ho]at this;cases this
 have vR:i<ys.length:=(bh.1 hi).1
 refine⟨hl,ho,hs,kY,u,⟨WX,dw,(List.length_set ..).trans nQ,hle,hm,⟨c0,e0,?_,abh,fun i' rw' Cb=>?_⟩,fun i1 i2 a1 a2 r1 r2 h1 h2 he=>?_⟩,fun q a h=>by simp at h,fun q r ys h=>by simp at h,fun q q' r r' ys BA b h=>by simp at h⟩
 ·show(E.h.setIfInBounds _ _)[E.m (.s d)]? =_;rw[Array.getElem?_setIfInBounds_ne ct];exact hb
 ·rw[List.getElem?_set]at Cb;by_cases Xh:i=i'
  ·subst Xh;rw[if_pos rfl,if_pos vR]at Cb;cases Cb;obtain⟨x,h1,h2⟩:=fo i row hi;obtain⟨_,_,_,hx⟩:=NX h2 hr;have aup:E.m (.r d i)<E.h.size:=(Array.getElem?_eq_some_iff.1 Bv.IE).1
   refine⟨x,h1,PE (c:=c') (e:=e) ⟨Bv.live,by rw[hlen];exact Bv.len,by rw[hlen];exact Bv.max,Bv.own,Bv.aI,?_,by rw[dg,Bv.size,hlen],vF,jM⟩ (by omega) (by rw[hlen];exact hx)⟩;show(E.h.setIfInBounds _ _)[E.m (.r d i)]? =_;simp[aup]
  ·rw[if_neg Xh]at Cb;obtain⟨x,h1,h2⟩:=fo i' rw' Cb;refine⟨x,h1,?_⟩;by_cases hn:1≤rw'.length
   ·obtain⟨c1,e1,Ke,hx⟩:=NX h2 hn;have Ty:E.m (.r d i)≠E.m (.r d i'):=fun hh=>by
     cases row with
     |nil=>simp at hr
     |cons a r=>cases rw' with
      |nil=>simp at hn
      |cons a' r'=>exact Xh (Iq i i' a a' r r' hi Cb hh)
    refine PE (c:=c1) (e:=e1) ⟨Ke.live,Ke.len,Ke.max,Ke.own,Ke.aI,?_,Ke.size,Ke.z,Ke.val⟩ hn hx;show(E.h.setIfInBounds _ _)[E.m (.r d i')]? =_;rw[Array.getElem?_setIfInBounds_ne Ty];exact Ke.IE
   ·cases rw' with
    |nil=>exact h2
    |cons a r=>simp at hn
 ·have key: ∀(j:Nat) (a:List AV) (r:List (List AV)),(ys.set i row')[j]? =some (a::r)→ ∃a' r',ys[j]? =some (a'::r'):=fun j a r hj=>by
   rw[List.getElem?_set]at hj;by_cases hij:i=j
   ·subst hij;cases row with
    |nil=>simp at hr
    |cons a' r'=>exact⟨a',r',hi⟩
   ·rw[if_neg hij]at hj;exact⟨a,r,hj⟩
  obtain⟨a1',r1',g1⟩:=key i1 a1 r1 h1;obtain⟨a2',r2',g2⟩:=key i2 a2 r2 h2;exact Iq i1 i2 a1' a2' r1' r2' g1 g2 he
theorem Sj(d:Nat):KG (fun x=>x= .tok (.n d)):=fun o h=>by subst h;simp[Own.loc,du,Own.du,Tok.loc]
theorem bq.aeF(h:bq E0 E w0 w s a){d i z:Nat}{ys:List (List (List AV))}{row row':List (List AV)}{c c':Array Value}{e:Nat}(eu:look d s.b=some (.ow (.g2 z ys) none []))(hi:ys[i]? =some row)(hr:1≤row.length)(Bv:Rd E d i z row c e)
  (hlen:row'.length=row.length)(vF: ∀l∈row',l.length=z)(dg:c'.size=c.size)(jM: ∀(q:Nat) (b:AV),row'.flatten[q]? =some b→ ∃y,b= .v y∧c'[q]? =some y)
  (hh:w'.heap=w.heap.setIfInBounds (E.m (.r d i)) (.cells c' e (0,0)))(FZ:jk w w'):
  bq E0 (E.qz (E.m (.r d i)) (.cells c' e (0,0))) w0 w' {s with t:=fY (aX (.n d)) s.t,b:=cT d (.ow (.g2 z (ys.set i row')) none []) (fe (aX (.n d)) s.b),up:=lG (aX (.n d)) s.up} a:=by
 have qf:=Xs h.wf (h.bx d _ eu) hi hr Bv hlen vF dg jM
 exact h.xZ (T:=aX (.n d)) (NA h.wf Bv.own Bv.aI) (fun t ht=>(kB _ _).2 (by cases ht;rfl)) (Sj d) (Rq h.wf Bv.IE) (w':=w') (by rw[hh,h.heap];rfl) FZ
  (fun b hb hc=>by have:=h.wI b hb;rw[hc]at this;simp[Own.loc,Tok.loc]at this) _ s.g s.nx
  (fun d' DF h'=>by
   rcases v9 h' with⟨rfl,rfl⟩|⟨ct,y,hy,rfl⟩
   ·exact .inr qf
   ·exact .inl ⟨y,hy,rfl,(fun hf=>by cases hf),fun hf=>ct (by injection hf with hf;injection hf)⟩)
  (fun d' hl=>by
   rw[aF];by_cases rF:d=d'
   ·exact⟨_,by rw[if_pos rF]⟩
   ·rw[if_neg rF,cE];obtain⟨ob,ho⟩:=h.lv d' hl;exact⟨_,by rw[ho];rfl⟩)
  (fun i DF h'=> .inl ⟨h',fun hf=>by cases hf⟩) (fun i=>h.gl i) h.gk h.ng
theorem Xp(hL:bj P C.L)(h:bq E0 E w0 w s a){t:Nat}{ti:TI}(ht:C.L t=some ti){d i j off z:Nat}{ys zs:List (List (List AV))}(eu:look d s.b=some (.ow (.g2 z ys) none [])){av:AV}{v:Value}(hv:Cz E av v){k:Nat}(hk:zJ av=some k)(YZ:k=ti.size)(wV:oh (cellsOf av)=true){K:bd}
  (hg:aiY ti ys i j off z (cellsOf (rd av)) zs)(hK:K .any {s with t:=fY (aX (.n d)) s.t,b:=cT d (.ow (.g2 z zs) none []) (fe (aX (.n d)) s.b),up:=lG (aX (.n d)) s.up}):
  ∃w',(Instr.storeAt t (.pointer (some ⟨E.m (.r d i),j*z+off,none⟩)) v).run P w= .ok () w'∧Out E0 w0 a K undef w':=by
 obtain⟨row,cs,e1,e2,e3,e4,e5⟩:=hg;subst e5;obtain⟨c1,c2,c3⟩:=lU hv hk;have FY:=Av (E:=E) (c:=v.cells) ⟨by rw[c1,c2],c3⟩ wV
 have hvr:=hv.giveUp h.wf (fun _=>true)
 obtain⟨d1,d2,d3⟩:=lU hvr (k:=k) (by rw[KD];exact hk);have hlen:(cellsOf (rd av)).length=ti.size:=by show(cellsOf (Ab.rA _ av)).length=_;rw[d2,YZ]
 obtain⟨hl,ho,hs,kY,u,⟨WX,dw,nQ,hle,hm,⟨c0,e0,hb,abh,fo⟩,Iq⟩,hq,ra⟩:=h.bx d _ eu;obtain⟨x,f1,f2⟩:=fo i row e1;have at3:j<row.length:=(bh.1 e2).1
 obtain⟨c,e,Bv,hx⟩:=NX f2 (by omega);have zB:cs.length=z:=Bv.z cs (jK e2)
 have hmul:j*z+z≤row.length*z:=by rw[←Nat.succ_mul];exact Nat.mul_le_mul_right _ at3
 have fS:=aB Bv.z
 obtain⟨w',g1,g2,g3⟩:=run_store (w:=w) hL ht (b:=E.m (.r d i)) (off:=j*z+off) (e:=e) (c:=c) (v:=v) (by rw[h.heap];exact Bv.IE) (by omega) (by rw[Bv.size];omega) FY;refine⟨w',g1,_,_,_,hK,h.aeF eu e1 (by omega) Bv (row':=row.set j (bF cs off (cellsOf (rd av)))) (by simp) (fun l rB=>?_) ?_ (fun q b ku=>?_) g2 g3,.any _⟩
 ·rcases List.mem_or_eq_of_mem_set rB with h1|h1
  ·exact Bv.z l h1
  ·rw[h1,jm (by omega)];exact zB
 ·exact(mF (j*z+off) v.cells.toList 0 c (by simp;rw[Bv.size];omega)).1
 ·rw[oZ Bv.z e2 (by omega),uo (by rw[fS];omega)]at ku;rw[(mF (j*z+off) v.cells.toList 0 c (by simp;rw[Bv.size];omega)).2 q];have jh:v.cells.toList.length=ti.size:=by simp;omega
  by_cases Bu:j*z+off≤q∧q<j*z+off+ti.size
  ·rw[if_pos (by omega)]at ku;rw[if_pos (by omega)];obtain⟨xv,rfl⟩:=Bj e4 _ _ ku;have aV:q - (j*z+off)<v.cells.toList.length:=by omega
   refine⟨v.cells.toList[q - (j*z+off)],?_,by simp only[Nat.add_zero];exact fp aV⟩;have:=d3 _ _ (v.cells.toList[q - (j*z+off)]) ku (by rw[←Array.getElem?_toList];exact fp aV)
   cases this;rfl
  ·rw[if_neg (by omega)]at ku;rw[if_neg (by omega)];exact Bv.val q b ku
def Env.bG(E:Env)(d i b:Nat)(n:Nat×Nat):Env:=
 {E with live:=fun k=>k= .r d i∨E.live k,m:=fun k=>if k= .r d i then b else E.m k,len:=fun k=>if k= .r d i then n else E.len k,own:=fun b'=>if b'=b then .tok (.n d)else E.own b'}
def ic(d:Nat):Nat→AV:=fun off=> .ptr (.s d) off
def mE(d:Nat):Nat→AV:=fun n=> .eW (.s d) n
structure xx(E:Env)(d e b:Nat):Prop where
 own:E.own b= .key (.s e)
 aI: ∀o,¬E.aI b o
theorem ib{d i e b:Nat}{n:Nat×Nat}(hb:xx E d e b){av:AV}{x:Value}(h:Cz E av x):bX av=true→Cz (E.bG d i b n) av x:=by
 induction h with
 |any x=>exact fun _=> .any _
 |v x=>exact fun _=> .v _
 |mq r A c=>exact fun _=> .mq _ _ _
 |sl r xs z b o c u hp hc hm dw hz hr hi er hu hq ih=>exact fun _=> .sl r xs z b o c u hp hc hm dw hz hr hi er hu (fun q a dc=>ih q a dc (hi q a dc))
 |rH r t=>exact fun _=> .rH _ _
 |gs r t xs=>intro hi;simp[bX]at hi
 |aR r cs off b o u hr hi er hu hq ih=>exact fun _=> .aR r cs off b o u hr hi er hu (fun q a dc=>ih q a dc (hi q a dc))
 |ptr k off hl=>
  intro hi;have hk:k≠ .r d i:=fun e=>by subst e;simp[bX,Key.loc]at hi
  have:=Cz.ptr (E:=E.bG d i b n) k off (.inr hl)
  simp only[Env.bG,if_neg hk]at this;exact this
 |eW k m hl hn hc hm=>
  intro hi;have hk:k≠ .r d i:=fun e=>by subst e;simp[bX,Key.loc]at hi
  have:=Cz.eW (E:=E.bG d i b n) k m (.inr hl) (by simp only[Env.bG,if_neg hk];exact hn) (by simp only[Env.bG,if_neg hk];exact hc) (by simp only[Env.bG,if_neg hk];exact hm)
  simp only[Env.bG,if_neg hk]at this;exact this
 |ca k j off z hl=>
  intro hi;have hk:k≠ .r d i:=fun e=>by subst e;simp[bX,Key.loc]at hi
  have:=Cz.ca (E:=E.bG d i b n) k j off z (.inr hl)
  simp only[Env.bG,if_neg hk]at this;exact this
 |mp k hl=>
  intro hi;have hk:k≠ .r d i:=fun e=>by subst e;simp[bX,Key.loc]at hi
  have:=Cz.mp (E:=E.bG d i b n) k (.inr hl)
  simp only[Env.bG,if_neg hk]at this;exact this
 |nM k hl=>
  intro hi;have hk:k≠ .r d i:=fun e=>by subst e;simp[bX,Key.loc]at hi
  have:=Cz.nM (E:=E.bG d i b n) k (.inr hl)
  simp only[Env.bG,if_neg hk]at this;exact this
 |ar n z xs ys hn hz hl hi hq ih=>exact fun _=> .ar n z xs ys hn hz hl hi fun q a y ha hy=>ih q a y ha hy (hi q a ha)
 |bm f cs ys hl hi hq ih=>exact fun _=> .bm f cs ys hl hi fun q a y ha hy=>ih q a y ha hy (hi q a ha)
 |lB r z xs x hz h ih=>exact fun _=> .lB r z xs x hz (ih rfl)
 |fn f cap ys hl hq ih=>intro hi;exact .fn f cap ys hl fun q a y ha hy=>ih q a y ha hy (bf (by simpa[bX]using hi) q a ha)
 |agg cs ys hl hq ih=>intro hi;exact .agg cs ys hl fun q a y ha hy=>ih q a y ha hy (bf (by simpa[bX]using hi) q a ha)
 |gw cs ys hl hq ih=>intro hi;exact .gw cs ys hl fun q a y ha hy=>ih q a y ha hy (bf (by simpa[bX]using hi) q a ha)
theorem uQ(e d i:Nat):Key.s e≠ .r d i:=fun h=>by cases h
theorem J2{d i e b:Nat}{n:Nat×Nat}(hb:xx E d e b){av:AV}{x:Value}(h:Cz E av x):Cz (E.bG d i b n) (sb d (ic d) (mE d) av) x:=by
 have key: ∀{k:Key},k≠ .r d i→(E.bG d i b n).m k=E.m k∧(E.bG d i b n).len k=E.len k:=fun{k} hk=>⟨by simp only[Env.bG,if_neg hk],by simp only[Env.bG,if_neg hk]⟩
 have hp: ∀k off,k≠ .r d i→E.live k→Cz (E.bG d i b n) (.ptr k off) (.pointer (some ⟨E.m k,off,none⟩)):=fun k off hk hl=>by
  have:=Cz.ptr (E:=E.bG d i b n) k off (.inr hl)
  rw[(key hk).1]at this;exact this
 have ha: ∀k m,k≠ .r d i→E.live k→m≤(E.len k).1→(E.len k).1≤(E.len k).2→(E.len k).2≤maxLen→Cz (E.bG d i b n) (.eW k m) (.slice (some ⟨E.m k,0,none⟩) m (E.len k).2):=fun k m hk hl hn hc hm=>by
  have:=Cz.eW (E:=E.bG d i b n) k m (.inr hl) (by rw[(key hk).2];exact hn) (by rw[(key hk).2];exact hc) (by rw[(key hk).2];exact hm)
  rw[(key hk).1,(key hk).2]at this;exact this
 have ct: ∀{e' j:Nat},bQ e' d=false→Key.r e' j≠ .r d i:=fun{e' j} hh hk=>by injection hk with h1 h2;subst h1;rw[eE]at hh;cases hh
 induction h with
 |any x=>exact .any _
 |v x=>exact .v _
 |mq r A c=>exact .mq _ _ _
 |sl r xs z b o c u hp hc hm dw hz hr hi er hu hq ih=>exact ib hb (.sl r xs z b o c u hp hc hm dw hz hr hi er hu hq) rfl
 |rH r t=>exact .rH _ _
 |gs r t xs z b' c e' cells u hc hm h0 dw hz hr QL dg ho er hi hu hq ih=>
  have tK:b'≠b:=fun hh=>by subst hh;rw[hb.own]at ho;cases ho
  exact Cz.gs (E:=E.bG d i b n) r t xs z b' c e' cells u hc hm h0 dw hz hr QL dg (by simp only[Env.bG,if_neg tK];exact ho) er hi hu (fun q a ha=>ib hb (hq q a ha) (hi q a ha))
 |aR r cs off b o u hr hi er hu hq ih=>exact ib hb (.aR r cs off b o u hr hi er hu hq) rfl
 |ptr k off hl=>
  cases k with
  |o j=>exact ib hb (.ptr _ _ hl) rfl
  |r e' j=>simp only[sb];cases hh:bQ e' d with
   |true=>exact .any _
   |false=>exact hp _ _ (ct hh) hl
  |s e'=>simp only[sb];cases hh:bQ e' d with
   |true=>have hh:=cY hh;subst hh;exact hp _ _ (uQ _ _ _) hl
   |false=>exact hp _ _ (uQ _ _ _) hl
 |eW k m hl hn hc hm=>
  cases k with
  |o j=>exact ib hb (.eW _ _ hl hn hc hm) rfl
  |r e' j=>simp only[sb];cases hh:bQ e' d with
   |true=>exact .any _
   |false=>exact ha _ _ (ct hh) hl hn hc hm
  |s e'=>simp only[sb];cases hh:bQ e' d with
   |true=>have hh:=cY hh;subst hh;exact ha _ _ (uQ _ _ _) hl hn hc hm
   |false=>exact ha _ _ (uQ _ _ _) hl hn hc hm
 |ca k j off z hl=>
  have hq: ∀k,k≠ .r d i→E.live k→Cz (E.bG d i b n) (.ca k j off z) (.pointer (some ⟨E.m k,j*z+off,none⟩)):=fun k hk hl=>by
   have:=Cz.ca (E:=E.bG d i b n) k j off z (.inr hl)
   rw[(key hk).1]at this;exact this
  cases k with
  |o j=>exact ib hb (.ca _ _ _ _ hl) rfl
  |r e' j=>simp only[sb];cases hh:bQ e' d with
   |true=>exact .any _
   |false=>exact hq _ (ct hh) hl
  |s e'=>simp only[sb];cases hh:bQ e' d with
   |true=>exact .any _
   |false=>exact hq _ (uQ _ _ _) hl
 |mp k hl=>
  have hq: ∀k,k≠ .r d i→E.live k→Cz (E.bG d i b n) (.mp k) (.map (some (E.m k))):=fun k hk hl=>by
   have:=Cz.mp (E:=E.bG d i b n) k (.inr hl)
   rw[(key hk).1]at this;exact this
  cases k with
  |o j=>exact ib hb (.mp _ hl) rfl
  |r e' j=>simp only[sb];cases hh:bQ e' d with
   |true=>exact .any _
   |false=>exact hq _ (ct hh) hl
  |s e'=>simp only[sb];cases hh:bQ e' d with
   |true=>exact .any _
   |false=>exact hq _ (uQ _ _ _) hl
 |nM k hl=>
  have hq: ∀k,k≠ .r d i→E.live k→Cz (E.bG d i b n) (.nM k) (.func (.yield (E.m k)) #[] #[]):=fun k hk hl=>by
   have:=Cz.nM (E:=E.bG d i b n) k (.inr hl)
   rw[(key hk).1]at this;exact this
  cases k with
  |o j=>exact ib hb (.nM _ hl) rfl
  |r e' j=>simp only[sb];cases hh:bQ e' d with
   |true=>exact .any _
   |false=>exact hq _ (ct hh) hl
  |s e'=>simp only[sb];cases hh:bQ e' d with
   |true=>exact .any _
   |false=>exact hq _ (uQ _ _ _) hl
 |ar n z xs ys hn hz hl hi hq ih=>exact ib hb (.ar n z xs ys hn hz hl hi hq) rfl
 |bm f cs ys hl hi hq ih=>exact ib hb (.bm f cs ys hl hi hq) rfl
 |lB r z xs x hz h ih=>exact ib hb (.lB r z xs x hz h) rfl
 |fn f cap ys hl hq ih=>
  simp only[sb];exact .fn f _ ys (by rw[cZ];exact hl) fun q a y ha hy=>by
   rw[iA]at ha;cases hc:cap[q]? with
   |none=>rw[hc]at ha;simp at ha
   |some a'=>rw[hc]at ha;simp at ha;subst ha;exact ih q a' y hc hy
 |agg cs ys hl hq ih=>
  simp only[sb];exact .agg _ ys (by rw[cZ];exact hl) fun q a y ha hy=>by
   rw[iA]at ha;cases hc:cs[q]? with
   |none=>rw[hc]at ha;simp at ha
   |some a'=>rw[hc]at ha;simp at ha;subst ha;exact ih q a' y hc hy
 |gw cs ys hl hq ih=>
  simp only[sb];exact .gw _ ys (by rw[cZ];exact hl) fun q a y ha hy=>by
   rw[iA]at ha;cases hc:cs[q]? with
   |none=>rw[hc]at ha;simp at ha
   |some a'=>rw[hc]at ha;simp at ha;subst ha;exact ih q a' y hc hy
theorem E9{d i e b:Nat}{n:Nat×Nat}(hb:xx E d e b){t:List (Nat×AV)}{T:Array Value}(h: ∀e x,look e t=some x→Cz E x (T.getD e undef)): ∀e x,look e (GV d (ic d) (mE d) t)=some x→Cz (E.bG d i b n) x (T.getD e undef):=by
 intro e x hd;rw[oR]at hd;cases hh:look e t with
 |none=>rw[hh]at hd;simp at hd
 |some y=>rw[hh]at hd;simp at hd;subst hd;exact J2 hb (h e y hh)
theorem jP.bG{d i e b:Nat}{n:Nat×Nat}(hb:xx E d e b): ∀{aa:List Act} {fs:List Fr},jP E aa fs→jP (E.bG d i b n) aa (Qd d (ic d) (mE d) fs)
 |[],[],_=>trivial
 |a::aa,f::fs,h=>⟨⟨h.1.1,E9 hb h.1.2⟩,jP.bG hb h.2⟩
 |[],_::_,h=>h.elim
 |_::_,[],h=>h.elim
theorem FV{k:Key}{d i:Nat}(hk:k≠ .s d)(hl: ∀a c,k≠ .r a c)(j:Nat):k.row j≠ .r d i:=by
 cases k with
 |s e=>exact fun h=>by injection h with h1 h2;exact hk (by rw[h1])
 |o e=>exact fun h=>by cases h
 |r a c=>exact fun _=>hl a c rfl
theorem bM.bG{d i e b:Nat}{n:Nat×Nat}(hb:xx E d e b){k:Key}{ob:Ob}(hk:k≠ .s e)(hkr: ∀a c,k≠ .r a c)(hd:k= .s d→ ∃z ys,ob= .ow (.g2 z ys) none []∧ys[i]? =some [])(h:bM E k ob):bM (E.bG d i b n) k (NV d (ic d) (mE d) ob):=by
 have an4:k≠ .r d i:=hkr d i
 have hm:(E.bG d i b n).m k=E.m k:=by simp only[Env.bG,if_neg an4]
 have nQ:(E.bG d i b n).len k=E.len k:=by simp only[Env.bG,if_neg an4]
 have QL:E.own (E.m k)= .key k→E.m k≠b:=fun ho hh=>by rw[hh,hb.own]at ho;injection ho with ho;exact hk ho.symm
 have Hi:E.own (E.m k)= .key k→(E.bG d i b n).own (E.m k)= .key k:=fun ho=>by simp only[Env.bG,if_neg (QL ho)];exact ho
 have anB: ∀b' t,E.own b'= .tok t→(E.bG d i b n).own b'= .tok t:=fun b' t ho=>by
  have:b'≠b:=fun hh=>by rw[hh,hb.own]at ho;cases ho
  simp only[Env.bG,if_neg this];exact ho
 cases ob with
 |box cs=>
  obtain⟨g1,c,e,g2,g3,g4,g5,g6⟩:=h;refine⟨.inr g1,c,e,by rw[hm];exact g2,by rw[hm];exact Hi g3,by rw[hm];exact g4,by rw[cZ];exact g5,fun q a x ha hx=>?_⟩;rw[iA]at ha;cases hc:cs[q]? with
  |none=>rw[hc]at ha;simp at ha
  |some a'=>rw[hc]at ha;simp at ha;subst ha;exact J2 hb (g6 q a' x hc hx)
 |arr z xs=>
  obtain⟨g1,gl,gz,gz',gm,c,e,g2,g3,g4,g5,g6,g7⟩:=h;exact⟨.inr g1,by rw[nQ];exact gl,gz,gz',gm,c,e,by rw[hm];exact g2,by rw[hm];exact Hi g3,by rw[hm];exact g4,g5,g6,fun q a x ha hx=>ib hb (g7 q a x ha hx) (g6 q a ha)⟩
 |ow p l xs=>
  by_cases QJ:k= .s d
  ·obtain⟨z,ys,qf,hyi⟩:=hd QJ;subst QJ;cases qf;obtain⟨g1,g2,g3,g4,u,⟨h0,hz,h1,h2,h3,⟨c,e',h4,h5,h6⟩,h7⟩,_,_⟩:=h;have fo: ∀i',i'≠i→(E.live (.r d i')→(E.bG d i b n).live (.r d i')∧(E.bG d i b n).m (.r d i')=E.m (.r d i')∧(E.bG d i b n).len (.r d i')=E.len (.r d i')):=fun i' Cb hl=>by
    have:Key.r d i'≠ .r d i:=fun hh=>by injection hh with _ hh;exact Cb hh
    exact⟨.inr hl,by simp only[Env.bG,if_neg this],by simp only[Env.bG,if_neg this]⟩
   have hni: ∀{i':Nat} {a:List AV} {r:List (List AV)},ys[i']? =some (a::r)→i'≠i:=fun{i' a r} hh hi=>by subst hi;rw[hyi]at hh;cases hh
   refine⟨.inr g1,by rw[hm];exact Hi g2,by rw[hm];exact g3,g4,u,⟨h0,hz,by rw[nQ];exact h1,by rw[nQ];exact h2,by rw[nQ];exact h3,⟨c,e',by rw[hm];exact h4,by rw[nQ];exact h5,fun i' row Cb=>?_⟩,fun i1 i2 a1 a2 r1 r2 q1 q2 he=>?_⟩,fun q a ha=>by simp at ha,fun q r ys ha=>by simp at ha,fun q q' r r' ys BA b ha=>by simp at ha⟩
   ·obtain⟨x,f1,f2⟩:=h6 i' row Cb;refine⟨x,f1,?_⟩;cases row with
    |nil=>exact f2
    |cons a r=>exact M6.move (k:= .s d) (fo i' (hni Cb)) (fun b' dM _ hs=>⟨anB b' _ dM,rfl,hs⟩) f2
   ·obtain⟨x1,_,f1⟩:=h6 i1 _ q1;obtain⟨x2,_,f2⟩:=h6 i2 _ q2;have e1:(E.bG d i b n).m (Key.row (.s d) i1)=E.m (.r d i1):=(fo i1 (hni q1) f1.1).2.1
    have e2:(E.bG d i b n).m (Key.row (.s d) i2)=E.m (.r d i2):=(fo i2 (hni q2) f2.1).2.1
    rw[e1,e2]at he;exact h7 i1 i2 a1 a2 r1 r2 q1 q2 he
  ·exact xH (fun j hj=>⟨.inr hj,by simp only[Env.bG,if_neg (FV QJ hkr j)],by simp only[Env.bG,if_neg (FV QJ hkr j)]⟩) (fun g=> .inr g) hm nQ (fun ho=>⟨Hi ho,rfl,fun o hh=>hh⟩) (fun a x hi hc=>ib hb hc hi) (fun b' dM _=>⟨anB b' _ dM,rfl,fun _=>Iff.rfl,rfl⟩) h
 |lp n' t ps nX body st=>
  obtain⟨g1,g3,g4,rec,g2,g5,g6,g7,g8,g9,Xz,gq⟩:=h;exact⟨.inr g1,by rw[hm];exact Hi g3,by rw[hm];exact g4,rec,by rw[hm];exact g2,g5,g6,g7,g8,g9,by rw[hm];exact Xz,E9 hb gq⟩
theorem bq.bG(h:bq E0 E w0 w s a){d i e b:Nat}(n:Nat×Nat)(hb:xx E d e b)(he:look e s.b=none){z:Nat}{ys:List (List (List AV))}(eu:look d s.b=some (.ow (.g2 z ys) none []))(hyi:ys[i]? =some []):
  bq E0 (E.bG d i b n) w0 w {s with t:=GV d (ic d) (mE d) s.t,b:=Ai d (ic d) (mE d) s.b,up:=Qd d (ic d) (mE d) s.up} a:=by
 have hF: ∀(o:Nat) (g:Bool),ic d o≠ .v (.bool g):=fun o g hh=>by cases hh
 have hA: ∀(o:Nat) (g:Bool),mE d o≠ .v (.bool g):=fun o g hh=>by cases hh
 have Il: ∀{p:Path},bc {s with t:=GV d (ic d) (mE d) s.t,b:=Ai d (ic d) (mE d) s.b,up:=Qd d (ic d) (mE d) s.up} p↔bc s p:=fun{p}=>
  (j7 (s:=s.sb d (ic d) (mE d)) (s':={s with t:=GV d (ic d) (mE d) s.t,b:=Ai d (ic d) (mE d) s.b,up:=Qd d (ic d) (mE d) s.up}) (p:=p) (fun _ _=>rfl)).trans (qL d _ _ hF hA)
 have aV:b<E.h.size:=h.wf.own _ (by rw[hb.own];simp)
 have kg: ∀{b':Nat},b'<E0.h.size→b'≠b:=fun{b'} dM hh=>by
  subst hh;have:=h.wI _ dM;rw[hb.own]at this;simp[Own.loc,Key.loc]at this
 have hdf:Dfs E0.h.size (E.bG d i b n) (PJ a E0.up):=by
  obtain⟨Bs,q1,q2,q3⟩:=h.Kp;refine⟨Bs,q1,q2,fun B hB=>?_⟩;obtain⟨q4,q5,q6⟩:=q3 B hB;refine⟨q4,?_,q6⟩;simp only[Env.bG];rw[if_neg (fun e=>by rw[e,hb.own]at q5;cases q5)];exact q5
 refine⟨h.heap,⟨h.wf.aI,fun b' dM=>?_,h.wf.fz⟩,hdf,h.up.bG hb,h.sz,?_,?_,?_,?_,?_,?_,⟨h.ext.size,h.ext.aI,fun k hk=>?_,fun b' dM hg=>?_⟩,fun b' dM=>?_,h.same,h.gk,h.nl,fun b'=>?_,h.lo⟩
 ·simp only[Env.bG]at dM;by_cases e:b'=b
  ·rw[e];exact aV
  ·rw[if_neg e]at dM;exact h.wf.own b' dM
 ·intro e x he hp;have nR:look e (GV d (ic d) (mE d) s.t)=some x:=he
  rw[oR]at nR;cases hh:look e s.t with
  |none=>rw[hh]at nR;simp at nR
  |some y=>rw[hh]at nR;simp at nR;subst nR;exact J2 hb (h.tm e y hh (Il.1 hp))
 ·intro e q he hp;exact h.cu e q he (fun hh=>hp (Il.2 hh))
 ·intro e' ob ho;have C6:look e' (Ai d (ic d) (mE d) s.b)=some ob:=ho
  rw[gn]at C6;cases hh:look e' s.b with
  |none=>rw[hh]at C6;simp at C6
  |some y=>
   rw[hh]at C6;simp at C6;subst C6;exact(h.bx e' y hh).bG hb (fun hk=>by injection hk with hk;subst hk;rw[he]at hh;cases hh) (fun a c hk=>by cases hk) (fun hk=>by injection hk with hk;subst hk;rw[eu]at hh;cases hh;exact⟨z,ys,rfl,hyi⟩)
 ·intro e' hl;rcases hl with hl|hl
  ·cases hl
  ·obtain⟨ob,ho⟩:=h.lv e' hl;exact⟨NV d (ic d) (mE d) ob,by show look e' (Ai _ _ _ s.b)=_;rw[gn,ho];rfl⟩
 ·intro j ob hi;have h1:=(h.gx j ob hi).bG (i:=i) (n:=n) hb (fun hh=>by cases hh) (fun a c hk=>by cases hk) (fun hk=>by cases hk)
  have SP:=h.gk j ob hi
  cases ob with
  |arr z xs=>exact h1
  |lp=>exact SP.elim
  |ow=>exact SP.elim
  |box cs=>
   obtain⟨g1,c,e,g2,g3,g4,g5,g6⟩:=h1;refine⟨g1,c,e,g2,g3,g4,by rw[g5,cZ],fun q a x ha hx=>?_⟩;have:=g6 q (Ab.sb d (ic d) (mE d) a) x (by rw[iA,ha];rfl) hx
   rwa [Kb (SP q a ha)]at this
 ·intro j;exact⟨fun hh=>by rcases hh with hh|hh;cases hh;exact(h.gl j).1 hh,fun hh=> .inr ((h.gl j).2 hh)⟩
 ·obtain⟨k1,k2,k3⟩:=h.ext.live k hk;have ct:k≠ .r d i:=fun e=>by subst e;exact h.nl (.r d i) rfl hk
  exact⟨.inr k1,by simp only[Env.bG,if_neg ct];exact k2,by simp only[Env.bG,if_neg ct];exact k3⟩
 ·obtain⟨k1,k2,k3,k4⟩:=h.ext.bw b' dM hg;exact⟨by simp only[Env.bG,if_neg (kg dM)];exact k1,k2,k3,k4⟩
 ·simp only[Env.bG,if_neg (kg dM)];exact h.wI b' dM
 ·simp only[Env.bG]
  split
  ·exact iG _
  ·exact h.ng b'
theorem Xt{d i e b z n:Nat}{ys:List (List (List AV))}{xs:List (List AV)}{c0 c:Array Value}{e0 e1:Nat}(Y2:e≠d)(hb:xx E d e b)(qf:bM E (.s d) (.ow (.g2 z ys) none []))(hyi:ys[i]? =some [])(hn:xs.length=n)(h1n:1≤n)(YU:n≤maxLen)(vF: ∀l∈xs,l.length=z)
  (QL:E.h[b]? =some (.cells c e1 (0,0)))(Ir:c.size=n*z)(jM: ∀(q:Nat) (b:AV),xs.flatten[q]? =some b→ ∃y,b= .v y∧c[q]? =some y)(hd:E.h[E.m (.s d)]? =some (.cells c0 e0 (0,0))):
  bM ((E.bG d i b (n,n)).write (.s d) (.cells (c0.setIfInBounds i (.slice (some ⟨b,0,none⟩) n n)) e0 (0,0))) (.s d) (.ow (.g2 z (ys.set i xs)) none []):=by
 have atT:=bM.bG (i:=i) (n:=(n,n)) hb (k:= .s d) (fun hk=>by injection hk with hk;exact Y2 hk.symm) (fun a c hk=>by cases hk) (fun _=>⟨z,ys,rfl,hyi⟩) qf
 obtain⟨_,o2,_,_,_,⟨_,_,_,_,_,⟨_,_,_,_,ahG⟩,_⟩,_⟩:=qf;obtain⟨g1,g2,g3,g4,u,⟨h0,hz,h1,h2,h3,⟨c,e',h4,h5,h6⟩,h7⟩,_,_⟩:=atT;have YY:(E.bG d i b (n,n)).m (.s d)=E.m (.s d):=by simp only[Env.bG,if_neg (uQ d d i)]
 have YX:(E.bG d i b (n,n)).m (.r d i)=b:=by simp only[Env.bG,if_true]
 have hbd:b≠E.m (.s d):=fun hh=>by rw[←hh,hb.own]at o2;injection o2 with o2;injection o2 with o2;exact Y2 o2
 rw[YY]at h4 g2 g3;have Y3:E.h[E.m (.s d)]? =some (.cells c e' (0,0)):=h4
 rw[hd]at Y3;injection Y3 with Y3;injection Y3 with hc1 hc2;subst hc1;subst hc2;have vR:i<ys.length:=(bh.1 hyi).1
 have hic:i<c0.size:=by rw[h5,←h2,←h1];exact vR
 have aV:E.m (.s d)<E.h.size:=(Array.getElem?_eq_some_iff.1 hd).1
 have adZ: ∀{i':Nat} {a:List AV} {r:List (List AV)},ys[i']? =some (a::r)→E.m (.r d i')≠b:=fun{i' a r} Cb hh=>by
  obtain⟨x,_,f⟩:=ahG i' _ Cb;have:E.own (E.m (.r d i'))= .tok (.n d):=f.2.2.2.2.1
  rw[hh,hb.own]at this;cases this
 have hrk: ∀{i':Nat},i'≠i→(E.bG d i b (n,n)).m (.r d i')=E.m (.r d i'):=fun{i'} Cb=>by
  have:Key.r d i'≠ .r d i:=fun hh=>by injection hh with _ hh;exact Cb hh
  simp only[Env.bG,if_neg this]
 have hlen:(ys.set i xs).length=((E.bG d i b (n,n)).len (.s d)).1:=by rw[List.length_set];exact h1
 refine⟨g1,by show(E.bG d i b (n,n)).own ((E.bG d i b (n,n)).m (.s d))=_;rw[YY];exact g2,fun o=>by show¬E.aI ((E.bG d i b (n,n)).m (.s d)) o;rw[YY];exact g3 o,g4,u,⟨rfl,hz,hlen,h2,h3,⟨c0.setIfInBounds i (.slice (some ⟨b,0,none⟩) n n),e0,?_,?_,fun i' row Cb=>?_⟩,fun i1 i2 a1 a2 r1 r2 q1 q2 he=>?_⟩,fun q a ha=>by simp at ha,fun q r ys ha=>by simp at ha,fun q q' r r' ys BA b ha=>by simp at ha⟩
 ·show(E.h.setIfInBounds ((E.bG d i b (n,n)).m (.s d)) _)[(E.bG d i b (n,n)).m (.s d)]? =_;rw[YY];simp[aV]
 ·rw[Array.size_setIfInBounds];exact h5
 ·rw[List.getElem?_set]at Cb;by_cases Xh:i=i'
  ·subst Xh;rw[if_pos rfl,if_pos vR]at Cb;cases Cb;refine⟨.slice (some ⟨b,0,none⟩) n n,by simp[hic],PE (c:=c) (e:=e1) ⟨.inl rfl,?_,by rw[hn];exact YU,?_,fun o=>?_,?_,by rw[hn];exact Ir,vF,jM⟩ (by omega) ?_⟩
   ·show(E.bG d i b (n,n)).len (.r d i)=_;simp only[Env.bG,if_true,hn]
   ·show(E.bG d i b (n,n)).own ((E.bG d i b (n,n)).m (.r d i))=_;rw[YX];simp only[Env.bG,if_true]
   ·show¬E.aI ((E.bG d i b (n,n)).m (.r d i)) o;rw[YX];exact hb.aI o
   ·show(E.h.setIfInBounds ((E.bG d i b (n,n)).m (.s d)) _)[(E.bG d i b (n,n)).m (.r d i)]? =_;rw[YX,YY,Array.getElem?_setIfInBounds_ne (Ne.symm hbd)];exact QL
   ·show _=Value.slice (some ⟨(E.bG d i b (n,n)).m (.r d i),0,none⟩) _ _;rw[YX,hn]
  ·rw[if_neg Xh]at Cb;obtain⟨x,f1,f2⟩:=h6 i' row Cb;refine⟨x,by rw[Array.getElem?_setIfInBounds_ne Xh];exact f1,?_⟩;cases row with
   |nil=>exact f2
   |cons a r=>exact M6.move (E:=E.bG d i b (n,n)) (k:= .s d) (fun hl=>⟨hl,rfl,rfl⟩) (fun b' dM _ hs=>⟨dM,by
     have ct:E.m (.s d)≠b':=fun hh=>by subst hh;rw[g2]at dM;cases dM
     show(E.h.setIfInBounds ((E.bG d i b (n,n)).m (.s d)) _)[b']? =_;rw[YY,Array.getElem?_setIfInBounds_ne ct];rfl,hs⟩) f2
 ·have key: ∀(j:Nat) (a:List AV) (r:List (List AV)),(ys.set i xs)[j]? =some (a::r)→j≠i→ys[j]? =some (a::r):=fun j a r hj QK=>by
   rw[List.getElem?_set,if_neg (Ne.symm QK)]at hj;exact hj
  have he:(E.bG d i b (n,n)).m (.r d i1)=(E.bG d i b (n,n)).m (.r d i2):=he
  by_cases hi1:i1=i
  ·by_cases hi2:i2=i
   ·omega
   ·exfalso;subst hi1;rw[YX,hrk hi2]at he;exact adZ (key _ _ _ q2 hi2) he.symm
  ·by_cases hi2:i2=i
   ·exfalso;subst hi2;rw[YX,hrk hi1]at he;exact adZ (key _ _ _ q1 hi1) he
   ·exact h7 i1 i2 a1 a2 r1 r2 (key _ _ _ q1 hi1) (key _ _ _ q2 hi2) he
theorem CQ{n i:Nat}{row:List (List AV)}(h:(List.replicate n ([]:List (List AV)))[i]? =some row):row=[]∧i<n:=by
 rw[List.getElem?_replicate]at h
 split at h
 ·rename_i hi;cases h;exact⟨rfl,hi⟩
 ·cases h
theorem IY(hL:bj P C.L)(hI:C.I=al)(h:bq E0 E w0 w s a){o:Oper}{t:Nat}{x y:Operand}(he:o.op= .makeSlice t x y){d:Nat}{n m:Int}(hn:intOf (bP s [] x)=some n)(hm:intOf (bP s [] y)=some m){K:bd}{Q:Exit→Act→World→Prop}
  (hk:Nv C t d n m s K):lz P o a w (fb E0 w0 o a K) Q:=by
 unfold Nv at hk;generalize C.base+d=d at hk
 split at hk
 ·rename_i e ti sg eu
  split at hk
  ·rename_i e' jH hzero
   split at hk
   ·rename_i tj KS;cases hc:(bQ ti.size 1&&mM 1 tj.size)with
    |false=>rw[hc]at hk;exact hk.elim
    |true=>
     rw[hc,aE]at hk;simp only[Bool.and_eq_true,Ko,wP]at hc;obtain⟨zx,hsj⟩:=hc;obtain⟨hu,Kf,i,i1,i2,i3,zv,i4,i5⟩:=gr hL sg;obtain⟨ys,j,⟨k2,WS,rfl,rfl⟩,hk⟩:=hk;rw[hI]at WS;obtain⟨k3,k4,k5⟩:0≤n∧n≤9223372036854775807∧n*ti.bytes≤140737488355328:=WS;subst k2;obtain⟨q1,e1⟩:=dU hn h trivial;obtain⟨q2,e2⟩:=dU hm h trivial;obtain⟨n',Im⟩:=Int.eq_ofNat_of_zero_le k3;subst Im;have hb:n'*i.bytes≤140737488355328:=by
      rw[i3];rw[←Int.natCast_mul]at k5;exact Int.ofNat_le.1 k5
     have Ca:=(hL.ok e ti Kf).KV
     have eB:=run_makeSlice (P:=P) hu i1 i4 (by omega) (k:=q1) (k':=q2) (n:=n') (by omega) hb w
     have xR: ¬E.live (.s d):=fun rB=>by obtain⟨ob,ho⟩:=h.lv d rB;rw[eu]at ho;cases ho
     have hzs:=EC i5 Ca n'
     have aiA:n'≤maxLen:=by unfold maxLen;omega
     have i2':i.size=1:=by omega
     rw[hzero,zx]at hzs;have qf:bM (E.addKey (.s d) (.cells ((Array.range (n'*i.size)).map fun q=>zv.cells[q % zv.cells.size]!) e (0,0)) n') (.s d) (.ow (.g2 tj.size (List.replicate n' [])) none []):=by
      refine⟨.inl rfl,by simp[Env.addKey],fun o hs=>?_,fun q a ha=>by simp at ha,fun _=>undef,⟨rfl,hsj,by simp[Env.addKey],by simp[Env.addKey],by simpa[Env.addKey]using aiA,⟨(Array.range (n'*i.size)).map fun q=>zv.cells[q % zv.cells.size]!,e,by simp[Env.addKey],by simp[Env.addKey,i2'],fun i0 row hi=>?_⟩,fun i1 i2 a1 a2 r1 r2 q1 q2 _=>?_⟩,fun q a ha=>by simp at ha,fun q r ys ha=>by simp at ha,fun q q' r r' ys BA b ha=>by simp at ha⟩
      ·simp only[Env.addKey,if_true]at hs;have:=h.wf.aI _ _ hs;omega
      ·obtain⟨hr,Cb⟩:=CQ hi;subst hr;refine⟨.slice none 0 0,?_,none,0,rfl⟩;rw[i2',←Array.getElem?_toList,hzs];rw[bh];have hlen:(List.replicate n' [Value.slice none 0 0]).flatten.length=n'*1:=by rw[aB (z:=1) (fun x hx=>by rw[(List.mem_replicate.1 hx).2];rfl)];simp
       refine⟨by omega,?_⟩;have F1:=List.getElem_mem (l:=(List.replicate n' [Value.slice none 0 0]).flatten) (n:=i0) (by omega)
       rw[List.mem_flatten]at F1;obtain⟨l,QI,GX⟩:=F1;rw[(List.mem_replicate.1 QI).2]at GX;simp
      ·have:=(CQ q1).1;cases this
     refine cP (x:= .slice (some ⟨w.heap.size,0,none⟩) n' n') (w':=w.alloc _) ?_ ⟨_,_,_,hk,h.Si eu qf,?_⟩
     ·simp only[execOp,he,e1,e2];simp[eB]
     ·have hmk:(E.addKey (.s d) (.cells ((Array.range (n'*i.size)).map fun q=>zv.cells[q % zv.cells.size]!) e (0,0)) n').m (.s d)=w.heap.size:=by simp[Env.addKey,h.heap]
      have:=Cz.eW (E:=E.addKey (.s d) (.cells ((Array.range (n'*i.size)).map fun q=>zv.cells[q % zv.cells.size]!) e (0,0)) n') (.s d) n' (.inl rfl) (by simp[Env.addKey]) (by simp[Env.addKey]) (by simp[Env.addKey];unfold maxLen;omega)
      rw[hmk]at this;simpa[Env.addKey]using this
   ·exact hk.elim
  ·exact hk.elim
 ·exact hk.elim
theorem G3(hL:bj P C.L)(h:bq E0 E w0 w s a){o:Oper}{t:Nat}{x y:Operand}(he:o.op= .store t x y){K:bd}{Q:Exit→Act→World→Prop}(hk:Ea C t (bP s [] x) (bP s [] y) s K)
  (hW:D9 C t (bP s [] x) (bP s [] y) s K→lz P o a w (fb E0 w0 o a K) Q):lz P o a w (fb E0 w0 o a K) Q:=by
 have hx:=h.ev (p:=[]) trivial x
 have hy:=h.ev (p:=[]) trivial y
 have fin: ∀w',(Instr.storeAt t (a.eval x) (a.eval y)).run P w= .ok () w'→Out E0 w0 a K undef w'→lz P o a w (fb E0 w0 o a K) Q:=fun w' g1 g2=>by
  refine sU ?_ g2;simp only[execOp,he];simp[g1]
 unfold Ea at hk
 split at hk
 ·rename_i d i off z e n hex hey
  split at hk
  ·rename_i z' ys eu
   split at hk
   ·rename_i ti z2 xs rE hle;cases hc:(bQ off 0&&(bQ z 1&&(bQ z2 z'&&(bQ ti.size 1&& !bQ e d))))with
    |false=>rw[hc]at hk;exact hk.elim
    |true=>
     rw[hc,aE]at hk;simp only[Bool.and_eq_true,Ko,Bool.not_eq_true']at hc;obtain⟨c1,c2,c3,c4,c5⟩:=hc;subst c1;subst c2;subst c3;have Ph:e≠d:=fun hh=>by subst hh;rw[eE]at c5;cases c5
     obtain⟨zs,⟨g1,g2,g3,g4,g5⟩,hk⟩:=hk;subst g5;rw[hex]at hx;cases dD:a.eval x<;>rw[dD]at hx<;>cases hx;obtain⟨el,eln,ez0,ez,em,c,e1,ehb,eo,es,esz,eim,eq⟩:=h.bx e _ hle;rw[hey]at hy;have QB:a.eval y= .slice (some ⟨E.m (.s e),0,none⟩) n n:=by
      generalize a.eval y=v at hy;cases hy;rw[eln];simp[g2]
     have h1:=h.kill e
     have ye:xx (E.kill e) d e (E.m (.s e)):=⟨eo,es⟩
     have F4:look d (s.sb e eX eX).b=some (.ow (.g2 z2 ys) none []):=by
      show look d (Ai e eX eX (del e s.b))=_;rw[gn,gp,if_neg Ph,eu];rfl
     have at1:look e (s.sb e eX eX).b=none:=by
      show look e (Ai e eX eX (del e s.b))=_;rw[gn,gp,if_pos rfl];rfl
     have h2:=h1.bG (n,n) ye at1 F4 g1
     have atS:=h1.bx d _ F4
     obtain⟨hl,ho,hs,kY,u,⟨WX,dw,nQ,hlen2,hm,⟨c0,e0,hb,abh,fo⟩,Iq⟩,hq,ra⟩:=h.bx d _ eu;have vR:i<ys.length:=(bh.1 g1).1
     have anw: ∀(q:Nat) (b:AV),xs.flatten[q]? =some b→ ∃y,b= .v y∧c[q]? =some y:=fun q b ku=>by
      have jN: ∀l∈xs,GJ l=true:=g4
      have Kd:b∈xs.flatten:=jK ku
      obtain⟨l,QI,GX⟩:=List.mem_flatten.1 Kd;obtain⟨q',vG,hqe⟩:=List.getElem_of_mem GX;obtain⟨yv,rfl⟩:=Bj (jN l QI) q' b (by rw[bh];exact⟨vG,hqe⟩);have hql:q<c.size:=by rw[esz,←aB ez];exact(bh.1 ku).1
      have:=eq q _ c[q] ku (by simp[hql])
      refine⟨yv,rfl,?_⟩;cases this;simp[hql]
     have Pd:=Xt (E:=E.kill e) (n:=n) Ph ye atS g1 g2 g3 (by omega) ez ehb (by rw[esz,g2]) anw hb
     obtain⟨w',r1,r2,r3⟩:=run_store (w:=w) hL rE (b:=E.m (.s d)) (off:=i*1+0) (e:=e0) (c:=c0) (v:= .slice (some ⟨E.m (.s e),0,none⟩) n n) (by rw[h.heap];exact hb) (by simp[Value.cells,c4]) (by omega) (fun v hv=>by simp[Value.cells]at hv;subst hv;rfl);have YY:((E.kill e).bG d i (E.m (.s e)) (n,n)).m (.s d)=E.m (.s d):=by simp only[Env.bG,if_neg (uQ d d i)];rfl
     have SM:look d (Ai d (ic d) (mE d) (s.sb e eX eX).b)=some (.ow (.g2 z2 ys) none []):=by rw[gn,F4];rfl
     have h3:=h2.pB (w':=w') SM Pd (by rw[YY,r2];simp[Value.cells]) r3 (by obtain⟨_,k2,_⟩:=h2.bx d _ SM;exact k2) (by obtain⟨_,_,k3,_⟩:=h2.bx d _ SM;exact k3)
     refine fin w' (by rw[dD,QB];exact r1) ⟨_,_,_,hk,h3,.any _⟩
   ·exact hk.elim
  ·exact hW hk
 ·rename_i d i j off z hex
  split at hk
  ·rename_i ti k z' ys rE hka eu;cases hc:(bQ z z'&&(bQ k ti.size&&oh (cellsOf (bP s [] y))))with
   |false=>rw[hc]at hk;exact hk.elim
   |true=>
    rw[hc,aE]at hk;simp only[Bool.and_eq_true,Ko]at hc;obtain⟨c1,c2,c3⟩:=hc;subst c1;obtain⟨zs,g,hk⟩:=hk;rw[hex]at hx;cases dD:a.eval x<;>rw[dD]at hx<;>cases hx;obtain⟨w',r1,r2⟩:=Xp hL h rE eu hy hka c2 c3 g hk;exact fin w' (by rw[dD];exact r1) r2
  ·exact hk.elim
 ·exact hW hk
structure Ok(P:Program)(C:dx):Prop where
 lay:bj P C.L
 al:C.I=Ab.al
 call:CA P C
 inl:Ds P C
 B8:Ds P {C with inl:=C.B8}
 yl:Te P C.yl
 cl: ∀k,C.cl k=true→C.tD k=false
 keys: ∀t ks,C.keys t=some ks→KeyLaw P t ks
 eqs: ∀t ks,C.eqs t=some ks→vJ P t ks
theorem mW{o:Oper}{K:bd}{Q:Exit→Act→World→Prop}(h:bq E0 E w0 w s a)(hp:bc s p)(k:Reads P E w a o s p K):lz P o a w (fb E0 w0 o a K) Q:=by
 obtain⟨r,hk,hx⟩:=k;obtain⟨x,hr,hc⟩:=hx hp;exact cP hr ⟨r,s,E,hk,h,hc⟩
theorem B5(ok:Ok P C)(h:bq E0 E w0 w s a){o:Oper}{K:bd}{c:Call}(he:o.op= .call c)(hc:c.callee= .builtin .len)
  (hk:match LV C.I C.L .len c.argTypes.toList (c.args.toList.map (bP s p))with|some (.v (.int k m))=> ∃z,m=z∧K (.v (.int k z)) s|_=>False):Reads P E w a o s p K:=by
 split at hk
 ·rename_i k m hp;obtain⟨z,rfl,hk⟩:=hk;refine⟨_,hk,fun xQ=>?_⟩;rw[ok.al]at hp;exact uA ok.lay h xQ (by rw[he];exact Mj hc hp)
 ·exact hk.elim
theorem AB{cl:Nat→Bool}{o:Oper}{K:Act→World→Prop}{Q:Exit→Act→World→Prop}(hn:mI cl o.op=false)(h:lz P o a w K Q):lz P o a w (fun a' w'=>K a' w'∧(mI cl o.op=true→cf w w')) Q:=
 lz.mono (fun _ _ hh=>⟨hh,fun hc=>by rw[hn]at hc;cases hc⟩) h
theorem We{d:Option Nat}{f:AV}{args:List AV}{K:bd}(hp:p≠[])(h:wFn (noI C d) p f args s K):wFn C p f args s K:=by
 unfold noI at h;cases fS:xa C 4000 d with
 |false=>rw[fS]at h;exact h
 |true=>
  rw[fS]at h
  match p,hp with
  |x::q,_=>exact h
theorem Ru(ok:Ok P C)(h:bq E0 E w0 w s a){o:Oper}{K:bd}{Q:Exit→Act→World→Prop}(hk:YD C [] o s K):lz P o a w (fun a' w'=>fb E0 w0 o a K a' w'∧(mI C.cl o.op=true→cf w w')) Q:=by
 by_cases jI: ∃c f,o.op= .call c∧c.callee= .value f
 ·obtain⟨c,f,he,hc⟩:=jI;unfold YD at hk;rw[he]at hk;dsimp only at hk;rw[hc]at hk;unfold noI at hk;cases fS:xa C 4000 o.dst with
  |false=>rw[fS]at hk;exact xD (p:=[]) ok.al ok.cl ok.call ok.inl ok.yl h trivial he hc hk
  |true=>rw[fS]at hk;exact xD (p:=[]) (C:={C with tD:=fun _=>false}) ok.al (fun _ _=>rfl) ok.call ok.inl ok.yl h trivial he hc hk
 refine AB ?_ ?_
 ·unfold mI
  split
  ·rename_i c he
   split
   ·rename_i k hc;exact absurd ⟨c,_,he,hc⟩ jI
   ·rfl
  ·rfl
 unfold YD at hk
 split at hk
 ·rename_i t he
  split at hk
  ·exact EG ok.lay h he hk
  ·exact hk.elim
 ·rename_i t m k v he;exact G4 ok.lay ok.al ok.keys h he hk
 ·rename_i t m k he;exact mW (p:=[]) h trivial (yn ok.lay ok.keys h he hk)
 ·rename_i t m k he
  split at hk
  ·exact I2 ok.lay ok.al ok.keys h he hk
  ·exact hk.elim
 ·rename_i t m st v he;exact BB ok.al h he hk
 ·rename_i t x y ty he;exact mW (p:=[]) h trivial (nY (neg:=false) ok.al ok.lay ok.eqs h he hk)
 ·rename_i t x y ty he;exact mW (p:=[]) h trivial (nY (neg:=true) ok.al ok.lay ok.eqs h he hk)
 ·rename_i c x y he;exact mW (p:=[]) h trivial (v5 ok.al h he hk)
 ·rename_i e x he
  split at hk
  ·rename_i d _ hd _;exact Nz h he hk
  ·exact hk.elim
 ·rename_i e he
  split at hk
  ·exact Jf ok.lay ok.al h he hk
  ·exact hk.elim
 ·rename_i t x y he;have hk:Ea C t (bP s [] x) (bP s [] y) s K:=hk
  refine G3 ok.lay h he hk fun hk=>?_;have hk:(∃d i off z r tk ys ti,bP s [] x= .ca (.s d) i off z∧bP s [] y= .gs r tk ys∧C.L t=some ti∧ti.size=1∧PX C d i off z r tk ys s K)∨IX C t (bP s [] x) (bP s [] y) s K:=by
   unfold D9 at hk
   split at hk
   ·rename_i d i off z r tk ys e1 e2;cases hio:aif (look d s.b)with
    |false=>rw[hio,aM]at hk;right;exact hk
    |true=>
     rw[hio,aE]at hk
     split at hk
     ·rename_i ti rE;exact .inl ⟨d,i,off,z,r,tk,ys,ti,e1,e2,rE,hk.1,hk.2⟩
     ·exact hk.elim
   ·exact .inr hk
  rcases hk with⟨d,i,off,z,r,tk,ys,ti,e1,e2,rE,hz1,hk⟩|hk
  ·exact K4 ok.lay ok.al h he e1 e2 rE hz1 hk
  unfold IX at hk
  split at hk
  ·rename_i n z ys dK;exact EE ok.lay ok.al h he dK hk
  ·exact Ja ok.lay ok.al h he (Nt hk)
 ·rename_i t x he;cases fS:xa C 2000 o.dst with
  |false=>rw[fS]at hk;exact mW (p:=[]) h trivial (ug ok.lay ok.al h he hk)
  |true=>
   rw[fS,aE]at hk
   split at hk
   ·obtain⟨r,s',E1,k1,k2,k3,k4⟩:=CE ok.lay h he hk;obtain⟨x,DL,Ik⟩:=k4 trivial;exact cP DL ⟨r,s',E1,k1,k2,Ik⟩
   ·exact hk.elim
 ·rename_i t x y he
  split at hk
  ·rename_i n hn;exact mW (p:=[]) h trivial (yV ok.lay ok.al h he hn hk)
  ·exact hk.elim
 ·rename_i t x y he
  split at hk
  ·rename_i n hn;exact mW (p:=[]) h trivial (uh ok.lay h he hn hk)
  ·exact hk.elim
 ·rename_i t len parts he
  split at hk
  ·rename_i d hd;cases fS:Nf (d+3000) C.op with
   |true=>rw[fS,aE]at hk;exact G5 ok.lay h he hk
   |false=>
   rw[fS,aM]at hk;obtain⟨r,s',E1,E2,w2,⟨r',Bt,k1⟩,k2,k3,k4,k5⟩:=rQ ok.lay h he (vv hk);obtain⟨x,DL,Ik⟩:=k5 trivial;exact cP DL ⟨r',s',E2,k1,k4,Bt _ _ Ik⟩
  ·exact hk.elim
 ·rename_i f first cap he
  split at hk
  ·rename_i hf;obtain⟨r,s',E1,k1,k2,k3,k4⟩:=CF h he hf hk;obtain⟨x,DL,Ik⟩:=k4 trivial;exact cP DL ⟨r,s',E1,k1,k2,Ik⟩
  ·split at hk
   ·rename_i hc;cases hi:cr (first.toList.map fun x=>rd (bP s [] x))with
    |false=>rw[hi]at hk;exact hk.elim
    |true=>
    rw[hi,aE]at hk;obtain⟨r,s',E1,k1,k2,k3,k4⟩:=Hy h he hc hi hk;obtain⟨x,DL,Ik⟩:=k4 trivial;exact cP DL ⟨r,s',E1,k1,k2,Ik⟩
   ·exact hk.elim
 ·rename_i t x y he
  split at hk
  ·rename_i d n m hd _ hn hm;cases fS:xa C 7000 (some d)with
   |true=>rw[fS,aE]at hk;exact IY ok.lay ok.al h he hn hm hk
   |false=>rw[fS,aM]at hk;exact La ok.lay ok.al h he hn hm (Rm ok.al hk)
  ·exact hk.elim
 ·rename_i t x lo hi mx he
  split at hk
  ·exact mW (p:=[]) h trivial (zY ok.lay ok.al h he hk)
  ·exact hk.elim
 ·rename_i c he
  split at hk
  ·rename_i f hc;exact absurd ⟨c,f,he,hc⟩ jI
  ·rename_i b hc;unfold zZ at hk
   split at hk
   ·rename_i d t t' x y h0 hd Tx dt;cases htt:bQ t t' with
    |false=>rw[htt]at hk;exact hk.elim
    |true=>
     rw[htt,aE]at hk;have anA:t=t':=cY htt
     obtain⟨x0,y0,hxy,e1,e2⟩: ∃x0 y0,c.args= #[x0,y0]∧bP s [] x0=x∧bP s [] y0=y:=by
      cases jh:c.args.toList with
      |nil=>rw[jh]at dt;simp at dt
      |cons x0 r=>cases r with
       |nil=>rw[jh]at dt;simp at dt
       |cons y0 r2=>cases r2 with
        |nil=>rw[jh]at dt;simp at dt;exact⟨x0,y0,Array.toList_inj.1 jh,dt.1,dt.2⟩
        |cons _ _=>rw[jh]at dt;simp at dt
     subst e1;subst e2;cases fS:xa C 1000 (some d)with
     |true=>
      rw[fS,aE]at hk;exact K6 ok.lay ok.al h he hc hxy (Array.toList_inj.1 Tx) anA.symm hk
     |false=>
     rw[fS,aM]at hk;exact G8 ok.lay ok.al h he hc hxy (Array.toList_inj.1 Tx) anA.symm (K5 ok.al hk)
   ·rename_i t t' x y xQ Tx dt;obtain⟨x0,y0,hxy,e1,e2⟩: ∃x0 y0,c.args= #[x0,y0]∧bP s [] x0=x∧bP s [] y0=y:=by
     cases jh:c.args.toList with
     |nil=>rw[jh]at dt;simp at dt
     |cons x0 r=>cases r with
      |nil=>rw[jh]at dt;simp at dt
      |cons y0 r2=>cases r2 with
       |nil=>rw[jh]at dt;simp at dt;exact⟨x0,y0,Array.toList_inj.1 jh,dt.1,dt.2⟩
       |cons _ _=>rw[jh]at dt;simp at dt
    subst e1;subst e2;exact K3 ok.lay ok.al h he hc hxy (Array.toList_inj.1 Tx) hk
   ·exact mW (p:=[]) h trivial (B5 ok h he hc hk)
   ·exact hk.elim
  ·exact hk.elim
 ·exact hk.elim
def Rf(P:Program)(cl:Nat→Bool)(E0:Env)(w0 w:World)(a:Act)(o:Oper)(s:St)(p:Path)(K:bd)(Q:Exit→Act→World→Prop):Prop:=
 ∃r s',K r s'∧(∀q,bc s' q↔bc s q)∧(bc s p→lz P o a w (fun a' w'=>fb E0 w0 o a (fun r0 s0=>r0=r∧s0=s') a' w'∧(mI cl o.op=true→cf w w')) Q)∧ ∃E1,bq E0 E1 w0 w s' a
theorem fZ{o:Oper}{K:bd}{Q:Exit→Act→World→Prop}(h:bq E0 E w0 w s a)(hn:mI C.cl o.op=false)(k:Reads P E w a o s p K):Rf P C.cl E0 w0 w a o s p K Q:=by
 obtain⟨r,hk,hx⟩:=k;refine⟨r,s,hk,fun _=>Iff.rfl,fun hp=>AB hn ?_,E,h⟩;obtain⟨x,hr,hc⟩:=hx hp;exact cP hr ⟨r,s,E,⟨rfl,rfl⟩,h,hc⟩
theorem Rv(ok:Ok P C)(h:bq E0 E w0 w s a){o:Oper}{K:bd}{Q:Exit→Act→World→Prop}(vQ:p≠[])(hk:YD C p o s K):Rf P C.cl E0 w0 w a o s p K Q:=by
 unfold YD at hk
 split at hk
 ·split at hk
  ·exact absurd rfl vQ
  ·exact hk.elim
 ·split at hk
  ·exact absurd rfl vQ
  ·exact hk.elim
 ·rename_i t m k he;exact fZ h (by rw[he];rfl) (yn ok.lay ok.keys h he hk)
 ·split at hk
  ·exact absurd rfl vQ
  ·exact hk.elim
 ·split at hk
  ·exact absurd rfl vQ
  ·exact hk.elim
 ·rename_i t x y ty he;exact fZ h (by rw[he];rfl) (nY (neg:=false) ok.al ok.lay ok.eqs h he hk)
 ·rename_i t x y ty he;exact fZ h (by rw[he];rfl) (nY (neg:=true) ok.al ok.lay ok.eqs h he hk)
 ·rename_i c x y he;exact fZ h (by rw[he];first|rfl|(simp[mI,hc])) (v5 ok.al h he hk)
 ·rename_i e x he
  split at hk
  ·exact absurd rfl vQ
  ·exact hk.elim
 ·rename_i e he
  split at hk
  ·exact absurd rfl vQ
  ·exact hk.elim
 ·rename_i t x y he
  split at hk
  ·exact absurd rfl vQ
  ·exact hk.elim
 ·rename_i t x he;cases fS:xa C 2000 o.dst with
  |false=>rw[fS]at hk;exact fZ h (by rw[he];first|rfl|(simp[mI,hc])) (ug ok.lay ok.al h he hk)
  |true=>
   rw[fS,aE]at hk
   split at hk
   ·exact absurd rfl vQ
   ·exact hk.elim
 ·rename_i t x y he
  split at hk
  ·rename_i n hn;exact fZ h (by rw[he];first|rfl|(simp[mI,hc])) (yV ok.lay ok.al h he hn hk)
  ·exact hk.elim
 ·rename_i t x y he
  split at hk
  ·rename_i n hn;exact fZ h (by rw[he];first|rfl|(simp[mI,hc])) (uh ok.lay h he hn hk)
  ·exact hk.elim
 ·rename_i t len parts he
  split at hk
  ·rename_i d hd;cases fS:Nf (d+3000) C.op with
   |true=>
    rw[fS,aE]at hk;exfalso;revert hk
    split
    ·exact fun _=>absurd rfl vQ
    ·exact fun hh=>hh
   |false=>
   rw[fS,aM]at hk;obtain⟨r,s',E1,E2,w2,⟨r',Bt,k1⟩,k2,k3,k4,k5⟩:=rQ ok.lay h he (vv hk);refine⟨r',s',k1,k3,fun hp=>?_,E1,k2⟩;obtain⟨x,DL,Ik⟩:=k5 hp;refine AB (by rw[he];rfl) ?_;exact cP DL ⟨r',s',E2,⟨rfl,rfl⟩,k4,Bt _ _ Ik⟩
  ·exact hk.elim
 ·rename_i f first cap he
  split at hk
  ·rename_i hf;obtain⟨r,s',E1,k1,k2,k3,k4⟩:=CF h he hf hk;refine⟨r,s',k1,k3,fun hp=>?_,E1,k2⟩;obtain⟨x,DL,Ik⟩:=k4 hp;refine AB (by rw[he];rfl) ?_;exact cP DL ⟨r,s',E1,⟨rfl,rfl⟩,k2,Ik⟩
  ·split at hk
   ·rename_i hc;cases hi:cr (first.toList.map fun x=>rd (bP s p x))with
    |false=>rw[hi]at hk;exact hk.elim
    |true=>
    rw[hi,aE]at hk;obtain⟨r,s',E1,k1,k2,k3,k4⟩:=Hy h he hc hi hk;refine⟨r,s',k1,k3,fun hp=>?_,E1,k2⟩;obtain⟨x,DL,Ik⟩:=k4 hp;refine AB (by rw[he];rfl) ?_;exact cP DL ⟨r,s',E1,⟨rfl,rfl⟩,k2,Ik⟩
   ·exact hk.elim
 ·rename_i t x y he
  split at hk
  ·exact absurd rfl vQ
  ·exact hk.elim
 ·rename_i t x lo hi mx he
  split at hk
  ·exact fZ h (by rw[he];first|rfl|(simp[mI,hc])) (zY ok.lay ok.al h he hk)
  ·exact hk.elim
 ·rename_i c he
  split at hk
  ·rename_i f hc;have hk:=We vQ hk
   unfold wFn at hk
   split at hk
   ·rename_i k cap dK
    split at hk
    ·exact absurd rfl vQ
    ·cases hi:cr ((c.args.toList.map fun x=>rd (bP s p x))++cap)with
     |true=>
      rw[hi,aE]at hk;obtain⟨r,jI,hk⟩:=hk;refine⟨r,_,hk,fun q=>jr mN,fun hp=>?_,E,h.giveUp mN⟩;refine xD ok.al ok.cl ok.call ok.inl ok.yl h hp he hc ?_;unfold wFn;rw[dK];dsimp only
      split
      ·exact absurd rfl vQ
      ·rw[hi,aE];exact⟨r,jI,rfl,rfl⟩
     |false=>
      rw[hi,aM]at hk;obtain⟨MB,r,jI,hk⟩:=hk;refine⟨r,_,hk,fun q=>jr mN,fun hp=>?_,E,h.giveUp mN⟩;refine xD ok.al ok.cl ok.call ok.inl ok.yl h hp he hc ?_;unfold wFn;rw[dK];dsimp only
      split
      ·exact absurd rfl vQ
      ·rw[hi,aM];exact⟨MB,r,jI,rfl,rfl⟩
   ·split at hk
    ·exact absurd rfl vQ
    ·exact hk.elim
   ·split at hk
    ·exact absurd rfl vQ
    ·exact hk.elim
   ·exact hk.elim
  ·rename_i hc;unfold zZ at hk
   split at hk
   ·exact absurd rfl vQ
   ·exact absurd rfl vQ
   ·exact fZ h (by rw[he];first|rfl|(simp[mI,hc])) (B5 ok h he hc hk)
   ·exact hk.elim
  ·exact hk.elim
 ·exact hk.elim
theorem J7(d e:Nat)(b:Bool): ∀q:Path,J8 d (q++[(e,b)])=(J8 d q||bQ e d)
 |[]=>by simp[J8]
 |(k,w)::r=>by simp only[List.cons_append,J8,J7 d e b r,Bool.or_assoc]
theorem Ij{d e:Nat}(h:SD d s.c=false):J8 d (eP s e)=false:=by
 unfold eP;cases hl:look e s.c with
 |none=>rfl
 |some q=>
  dsimp only;by_cases hh:J8 d q=true
  ·rw[AP hl hh]at h;cases h
  ·simpa using hh
theorem HU(d:Nat)(b:Bool): ∀q:Path,bc s (q++[(d,b)])↔bc s q∧isB b (look d s.t)
 |[]=>by simp[bc]
 |(k,w)::r=>by simp only[List.cons_append,bc,HU d b r,and_assoc]
def Dt(E0:Env)(w0:World)(K:St→Prop)(a:Act)(w:World):Prop:= ∃s E,K s∧bq E0 E w0 w s a
theorem AU(h:bq E0 E w0 w s a){ops:Array Oper}{o og:Oper}{j d:Nat}{b:Bool}(hg:o.guard=some (j,b))(hj:ops[j]? =some og)(hd:og.dst=some d)(hb:isBool (look d s.t)=true):
  Region.wanted o (yielded ops a.tmps)=true↔bc s (eP s d++[(d,b)]):=by
 have hy:yielded ops a.tmps j=match a.tmps[d]? with|some (.bool x)=>some x|_=>none:=by
  simp only[yielded,hj,hd,aw];rfl
 obtain⟨g,hgl⟩: ∃g,look d s.t=some (.v (.bool g)):=by
  unfold isBool at hb
  split at hb
  ·rename_i g hh;exact⟨g,hh⟩
  ·cases hb
 rw[HU,hgl];simp only[Region.wanted,hg,hy];by_cases hp:bc s (eP s d)
 ·have hc:=bN (h.tm d _ hgl hp)
  have hq:a.tmps[d]? =some (.bool g):=by
   rw[Array.getD_eq_getD_getElem?]at hc;cases hh:a.tmps[d]? with
   |none=>rw[hh]at hc;simp[undef]at hc
   |some z=>rw[hh]at hc;simp at hc;rw[hc]
  rw[hq];simp only[isB,hp,true_and];simp
 ·have hu:a.tmps.getD d undef=undef:=by
   unfold eP at hp;cases hl:look d s.c with
   |none=>rw[hl]at hp;exact absurd trivial hp
   |some q=>rw[hl]at hp;exact h.cu d q hl hp
  have hq:(match a.tmps[d]? with|some (.bool x)=>some x|_=>none)=(none:Option Bool):=by
   rw[Array.getD_eq_getD_getElem?]at hu;cases hh:a.tmps[d]? with
   |none=>rfl
   |some z=>rw[hh]at hu;simp at hu;subst hu;rfl
  rw[hq];constructor
  ·intro hh;simp at hh
  ·intro hh;exact absurd hh.1 hp
theorem EL(ok:Ok P C){ops:Array Oper}{Q:Exit→Act→World→Prop}{K:St→Prop}{o:Oper}(h:bq E0 E w0 w s a)(hk:I8 C ops.toList o s K):
  if Region.wanted o (yielded ops a.tmps)then lz P o a w (fun a' w'=>Dt E0 w0 K a' w'∧(mI C.cl o.op=true→cf w w')) Q else Dt E0 w0 K (a.put o.dst undef) w:=by
  unfold I8 at hk;cases hg:o.guard with
  |none=>
   rw[hg]at hk;dsimp only at hk;rw[if_pos (by simp[Region.wanted,hg])];cases hp:CT C.I C.L s [] o.op with
   |some r=>
    rw[hp]at hk;dsimp only at hk;rw[ok.al]at hp;replace hp:=uB hp;obtain⟨x,hr,hc⟩:=uA ok.lay h (p:=[]) trivial hp;unfold lz;rw[hr];exact⟨⟨_,_,hk.2,h.put hk.1 (fun _ _=>rfl) (.inl ⟨trivial,hc⟩)⟩,fun _=>cf.refl w⟩
   |none=>
    rw[hp]at hk;dsimp only at hk;refine lz.mono (fun a' w' hn=>?_) (Ru (Q:=Q) ok h hk);obtain⟨⟨x,rfl,r,s',E',⟨hd,kh⟩,hs,hc⟩,Bw⟩:=hn;exact⟨⟨_,_,kh,hs.put hd (fun _ _=>rfl) (.inl ⟨trivial,hc⟩)⟩,Bw⟩
  |some jb=>
   obtain⟨j,b⟩:=jb;rw[hg]at hk;dsimp only at hk;cases hj:ops.toList[j]? with
   |none=>rw[hj]at hk;exact hk.elim
   |some og=>
    rw[hj]at hk;dsimp only at hk;cases hd:og.dst with
    |none=>rw[hd]at hk;exact hk.elim
    |some d=>
     rw[hd]at hk;dsimp only at hk;cases hb:(xn s o.dst&&(isBool (look d s.t)&&MP o.dst d))with
     |false=>rw[hb]at hk;exact hk.elim
     |true=>
      rw[hb,aE]at hk;simp only[Bool.and_eq_true]at hb;obtain⟨GY,ye,DO⟩:=hb;have hw:=AU h hg (by rw[←Array.getElem?_toList];exact hj) hd ye
      have wU: ∀d',o.dst=some d'→J8 d' (eP s d++[(d,b)])=false:=by
       intro d' rF;rw[rF]at GY DO;simp only[xn,Bool.and_eq_true,Bool.not_eq_true']at GY;rw[J7,Ij GY.2];have ct: ¬d'=d:=fun e=>by subst e;simp[MP]at DO
       rw[zh (fun e=>ct e.symm)];rfl
      cases hp:CT C.I C.L s (eP s d++[(d,b)]) o.op with
      |some r=>
       rw[hp]at hk;dsimp only at hk;rw[ok.al]at hp;replace hp:=uB hp;by_cases xQ:bc s (eP s d++[(d,b)])
       ·rw[if_pos (hw.2 xQ)];obtain⟨x,hr,hc⟩:=uA ok.lay h xQ hp;unfold lz;rw[hr];exact⟨⟨_,_,hk.2,h.put hk.1 wU (.inl ⟨xQ,hc⟩)⟩,fun _=>cf.refl w⟩
       ·rw[if_neg (fun hh=>xQ (hw.1 hh))];exact⟨_,_,hk.2,h.put hk.1 wU (.inr ⟨xQ,rfl⟩)⟩
      |none=>
       rw[hp]at hk;dsimp only at hk;obtain⟨r,s',⟨nN,kh⟩,hpi,eB,E1,anJ⟩:=Rv (Q:=Q) ok h (by simp) hk;by_cases xQ:bc s (eP s d++[(d,b)])
       ·rw[if_pos (hw.2 xQ)];refine lz.mono (fun a' w' hn=>?_) (eB xQ);obtain⟨⟨x,rfl,r0,s0,E',⟨rfl,rfl⟩,hs,hc⟩,Bw⟩:=hn;exact⟨⟨_,_,kh,hs.put nN wU (.inl ⟨(hpi _).2 xQ,hc⟩)⟩,Bw⟩
       ·rw[if_neg (fun hh=>xQ (hw.1 hh))];exact⟨_,_,kh,anJ.put nN wU (.inr ⟨fun hh=>xQ ((hpi _).1 hh),rfl⟩)⟩
abbrev WF(ro:Option Nat):Fence:={fn:=fun _=>True,depth:=none,alive:=false,round:=ro}
theorem lz.wpIn{o:Oper}{K:Act→World→Prop}{Q:Exit→Act→World→Prop}(ro:Option Nat)(h:lz P o a w K Q):o.wpIn (WF ro) 0 P a w K Q:=by
 have hnd: ∀c,o.op≠ .defer c:=fun c hc=>by
  unfold lz at h;simp only[execOp,hc,Sem.run_bind]at h;cases hr:(resolve a.eval c o.type).run P w with
  |ok d w'=>rw[hr]at h;exact h
  |halt x w'=>rw[hr]at h;exact h
 refine⟨fun _ _=>trivial,?_⟩;show o.uponIn _ _ _ _ _ _ ((o.semAt ro a.eval).run P w);rw[Oper.semAt_eq _ _ _ hnd];unfold lz at h;generalize (execOp a.eval o).run P w=r at*;cases r with
 |ok n w'=>
  cases n<;>simp only[EP]at h
  case value=>exact h
  case skip=>exact h
  case enter f args=>
   refine⟨fun hd=>(by cases hd),(callsIn_wide (n:=0)).2 (Calls.mono h ?_)⟩
   rintro e T1 ⟨x,rfl,e2⟩
   exact e2
  case round l f tmps nX body=>
   refine⟨fun hd=>(by cases hd),RoundIn.mono (F:=WF ro) h ?_⟩
   rintro e T1 ⟨x,rfl,e2⟩
   exact e2
 |halt x w'=>simp only[EP]at h
theorem EJ(ok:Ok P C)(ro:Option Nat){ops:Array Oper}{Q:Exit→Act→World→Prop}{K:St→Prop}(hQ: ∀a w,Dt E0 w0 K a w→Q .normal a w):
  ∀{rest:List Oper} {s:St} {E:Env} {a:Act} {w:World},bq E0 E w0 w s a→TV C ops.toList rest s K→wpListIn (WF ro) 0 P ops Q rest a w
 |[],s,E,a,w,h,hk=>hQ a w ⟨s,E,hk,h⟩
 |o::rest,s,E,a,w,h,hk=>by
  unfold TV at hk;have hn: ∀a w,Dt E0 w0 (fun s'=>TV C ops.toList rest s' K) a w→wpListIn (WF ro) 0 P ops Q rest a w:=fun a w ⟨s',E',kh,hs⟩=>EJ ok ro hQ hs kh
  have h1:=EL (Q:=Q) ok h hk
  unfold wpListIn;by_cases hw:Region.wanted o (yielded ops a.tmps)=true
  ·rw[if_pos hw]at h1 ⊢;exact(lz.mono (fun a w hh=>hn a w hh.1) h1).wpIn ro
  ·rw[if_neg hw]at h1 ⊢;exact⟨fun _ _=>trivial,hn _ _ h1⟩
end Ab
namespace Ab
open Go
variable{P:Program}{L:nK}{E0 E E':Env}{w0 w w':World}{s s':St}{a:Act}{p:Path}{C:dx}
theorem C3{d:Nat}{x:AV}: ∀{c:List (Nat×Path)} {t:List (Nat×AV)},look d (forget c t)=some x→look d c=none∧look d t=some x
 |[],t,h=>⟨rfl,h⟩
 |(k,q)::r,t,h=>by
  simp only[forget]at h;obtain⟨h1,h2⟩:=C3 h;rw[gp]at h2;by_cases hk:k=d
  ·rw[if_pos hk]at h2;cases h2
  ·rw[if_neg hk]at h2;exact⟨by rw[aC,if_neg hk];exact h1,h2⟩
theorem bq.clean(h:bq E0 E w0 w s a):bq E0 E w0 w s.clean a:=by
 refine⟨h.heap,h.wf,h.Kp,h.up,h.sz,fun d x hd _=>?_,fun d q hd=>?_,h.bx,h.lv,h.gx,h.gl,h.ext,h.wI,h.same,h.gk,h.nl,h.ng,h.lo⟩
 ·obtain⟨h1,h2⟩:=C3 hd;exact h.tm d x h2 (by unfold eP;rw[h1];trivial)
 ·simp[St.clean,look]at hd
theorem FQ{d:Nat}{x:AV}: ∀{l:List Nat} {t:List (Nat×AV)},look d (XR l t)=some x→look d t=some x
 |[],t,h=>h
 |e::r,t,h=>by
  have:=FQ (l:=r) (t:=del e t) h
  rw[gp]at this
  split at this
  ·cases this
  ·exact this
theorem bq.Hj(h:bq E0 E w0 w s a)(hc:s.c=[])(l:List Nat):bq E0 E w0 w (s.Hj l) a:=by
 refine⟨h.heap,h.wf,h.Kp,h.up,h.sz,fun d x hd _=>?_,fun d q hd=>?_,h.bx,h.lv,h.gx,h.gl,h.ext,h.wI,h.same,h.gk,h.nl,h.ng,h.lo⟩
 ·exact h.tm d x (FQ hd) (by unfold eP;rw[hc];trivial)
 ·simp only[St.Hj]at hd;rw[hc]at hd;simp[look]at hd
def Env.only(E:Env)(f:Nat→Prop):Env:=
 {E with live:=fun k=>match k with
  | .s d=>E.live (.s d)∧f d
  | .o i=>E.live (.o i)
  | .r d i=>E.live (.r d i)}
theorem JU(E:Env)(f:Nat→Prop):Tr E (E.only f):=
 ⟨rfl,fun _ _=>Iff.rfl,fun _=>rfl,fun _ h=>⟨h,rfl,rfl⟩,fun _ _ _ h=>h,fun _ _ h=>h⟩
theorem tL{b:List (Nat×Ob)}: ∀{l:List Nat},hasB b l=true→ ∀d∈l,∃ob,look d b=some ob
 |[],_,d,hd=>by simp at hd
 |e::r,h,d,hd=>by
  simp only[hasB,Bool.and_eq_true]at h;rcases List.mem_cons.1 hd with rfl|hd
  ·cases hh:look d b with
   |none=>rw[hh]at h;simp at h
   |some ob=>exact⟨ob,rfl⟩
  ·exact tL h.2 d hd
theorem AT{b:List (Nat×Ob)}: ∀{l r:List Nat},hasB b (l++r)=true→hasB b l=true∧hasB b r=true
 |[],_,h=>⟨rfl,h⟩
 |e::l,r,h=>by
  simp only[List.cons_append,hasB,Bool.and_eq_true]at h ⊢;exact⟨⟨h.1,(AT h.2).1⟩,(AT h.2).2⟩
theorem qt{b:List (Nat×Ob)}: ∀{cs:List AV},hasB b (kX cs)=true→ ∀(q:Nat) (a:AV),cs[q]? =some a→hasB b (AM a)=true
 |[],_,q,a,h=>by simp at h
 |x::r,h,q,a,hq=>by
  rw[kX]at h;cases q with
  |zero=>simp at hq;subst hq;exact(AT h).1
  |succ q=>exact qt (AT h).2 q a (by simpa using hq)
theorem Cz.only{b:List (Nat×Ob)}{f:Nat→Prop}(hf: ∀d ob,look d b=some ob→f d){av:AV}{x:Value}(h:Cz E av x):hasB b (AM av)=true→Cz (E.only f) av x:=by
 have k:=JU E f
 induction h with
 |any x=>exact fun _=> .any _
 |v x=>exact fun _=> .v _
 |mq r A c=>exact fun _=> .mq _ _ _
 |sl r xs z b o c u hp hc hm dw hz hr hi er hu hq ih=>
  exact fun _=> .sl r xs z b o c u hp hc hm dw hz hr hi er hu (fun q a dc=>k.bX (hq q a dc) (hi q a dc))
 |rH r t=>exact fun _=> .rH _ _
 |gs r t xs z b c e cells u hc hm h0 dw hz hr hb dg ho er hi hu hq ih=>
  exact fun _=> .gs r t xs z b c e cells u hc hm h0 dw hz hr hb dg ho er hi hu (fun q a dc=>k.bX (hq q a dc) (hi q a dc))
 |aR r cs off b o u hr hi er hu hq ih=>
  exact fun _=> .aR r cs off b o u hr hi er hu (fun q a dc=>k.bX (hq q a dc) (hi q a dc))
 |ptr q off hl=>
  intro hb;cases q with
  |s e=>obtain⟨ob,ho⟩:=tL hb e (by simp[AM]);exact .ptr (E:=E.only f) (.s e) off ⟨hl,hf e ob ho⟩
  |o i=>exact .ptr (E:=E.only f) (.o i) off hl
  |r e j'=>exact .ptr (E:=E.only f) (.r e j') off hl
 |eW q n hl hn hc hm=>
  intro hb;cases q with
  |s e=>obtain⟨ob,ho⟩:=tL hb e (by simp[AM]);exact .eW (E:=E.only f) (.s e) n ⟨hl,hf e ob ho⟩ hn hc hm
  |o i=>exact .eW (E:=E.only f) (.o i) n hl hn hc hm
  |r e j'=>exact .eW (E:=E.only f) (.r e j') n hl hn hc hm
 |ca q i off z hl=>
  intro hb;cases q with
  |s e=>obtain⟨ob,ho⟩:=tL hb e (by simp[AM]);exact .ca (E:=E.only f) (.s e) i off z ⟨hl,hf e ob ho⟩
  |o j=>exact .ca (E:=E.only f) (.o j) i off z hl
  |r e j'=>exact .ca (E:=E.only f) (.r e j') i off z hl
 |mp q hl=>
  intro hb;cases q with
  |s e=>obtain⟨ob,ho⟩:=tL hb e (by simp[AM]);exact .mp (E:=E.only f) (.s e) ⟨hl,hf e ob ho⟩
  |o i=>exact .mp (E:=E.only f) (.o i) hl
  |r e j'=>exact .mp (E:=E.only f) (.r e j') hl
 |nM q hl=>
  intro hb;cases q with
  |s e=>obtain⟨ob,ho⟩:=tL hb e (by simp[AM]);exact .nM (E:=E.only f) (.s e) ⟨hl,hf e ob ho⟩
  |o i=>exact .nM (E:=E.only f) (.o i) hl
  |r e j'=>exact .nM (E:=E.only f) (.r e j') hl
 |ar n z xs ys hn hz hl hi hq ih=>exact fun _=> .ar n z xs ys hn hz hl hi (fun q a y ha hy=>k.bX (hq q a y ha hy) (hi q a ha))
 |bm f' cs ys hl hi hq ih=>exact fun _=> .bm f' cs ys hl hi (fun q a y ha hy=>k.bX (hq q a y ha hy) (hi q a ha))
 |lB r z xs x hz h ih=>exact fun _=> .lB r z xs x hz (ih rfl)
 |fn g cap ys hl hq ih=>intro hb;exact .fn g cap ys hl fun q a y ha hy=>ih q a y ha hy (qt (by simpa[AM]using hb) q a ha)
 |agg cs ys hl hq ih=>intro hb;exact .agg cs ys hl fun q a y ha hy=>ih q a y ha hy (qt (by simpa[AM]using hb) q a ha)
 |gw cs ys hl hq ih=>intro hb;exact .gw cs ys hl fun q a y ha hy=>ih q a y ha hy (qt (by simpa[AM]using hb) q a ha)
theorem I9{t:List (Nat×AV)}: ∀{t':List (Nat×AV)},wkT t t'→ ∀d b,look d t'=some b→(match look d t with|some a=>P0 a b|none=>P0 .any b)
 |[],_,d,b,h=>by simp[look]at h
 |(k,y)::r,h,d,b,hd=>by
  rw[aC]at hd;by_cases hk:k=d
  ·subst hk;rw[if_pos rfl]at hd;cases hd;exact h.1
  ·rw[if_neg hk]at hd;exact I9 h.2 d b hd
theorem PZ{t:List (Nat×Ob)}: ∀{t':List (Nat×Ob)},wkB t t'→ ∀d b,look d t'=some b→ ∃a,look d t=some a∧alr a b
 |[],_,d,b,h=>by simp[look]at h
 |(k,y)::r,h,d,b,hd=>by
  rw[aC]at hd;by_cases hk:k=d
  ·subst hk;rw[if_pos rfl]at hd;cases hd;have h1:=h.1
   cases hl:look k t with
   |none=>rw[hl]at h1;exact h1.elim
   |some a=>rw[hl]at h1;exact⟨a,rfl,h1⟩
  ·rw[if_neg hk]at hd;exact PZ h.2 d b hd
theorem Aw{b:List (Nat×Ob)}: ∀{t:List (Nat×AV)},V9 b t=true→ ∀d a,look d t=some a→hasB b (AM a)=true
 |[],_,d,a,h=>by simp[look]at h
 |(k,y)::r,h,d,a,hd=>by
  simp only[V9,Bool.and_eq_true]at h;rw[aC]at hd;by_cases hk:k=d
  ·rw[if_pos hk]at hd;cases hd;exact h.1
  ·rw[if_neg hk]at hd;exact Aw h.2 d a hd
theorem xI{b:List (Nat×Ob)}: ∀{t:List (Nat×Ob)},okB b t=true→ ∀d cs,look d t=some (.box cs)→hasB b (kX cs)=true
 |[],_,d,a,h=>by simp[look]at h
 |(k,.box y)::r,h,d,a,hd=>by
  simp only[okB,Bool.and_eq_true]at h;rw[aC]at hd;by_cases hk:k=d
  ·rw[if_pos hk]at hd;cases hd;exact h.1
  ·rw[if_neg hk]at hd;exact xI h.2 d a hd
 |(k,.arr z xs)::r,h,d,a,hd=>by
  simp only[okB]at h;rw[aC]at hd;by_cases hk:k=d
  ·rw[if_pos hk]at hd;cases hd
  ·rw[if_neg hk]at hd;exact xI h d a hd
 |(k,.ow p l xs)::r,h,d,a,hd=>by
  simp only[okB]at h;rw[aC]at hd;by_cases hk:k=d
  ·rw[if_pos hk]at hd;cases hd
  ·rw[if_neg hk]at hd;exact xI h d a hd
 |(k,.lp n t ps nX body st)::r,h,d,a,hd=>by
  simp only[okB,Bool.and_eq_true]at h;rw[aC]at hd;by_cases hk:k=d
  ·rw[if_pos hk]at hd;cases hd
  ·rw[if_neg hk]at hd;exact xI h.2 d a hd
theorem BU{b:List (Nat×Ob)}: ∀{t:List (Nat×Ob)},okB b t=true→ ∀{d n t' ps nX body st},look d t=some (.lp n t' ps nX body st)→V9 b t'=true
 |[],_,d,_,_,_,_,_,_,h=>by simp[look]at h
 |(k,o)::r,h,d,n,t',ps,nX,body,st,hd=>by
  rw[aC]at hd;by_cases hk:k=d
  ·rw[if_pos hk]at hd;cases hd;simp only[okB,Bool.and_eq_true]at h;exact h.1
  ·rw[if_neg hk]at hd;cases o with
   |box cs=>simp only[okB,Bool.and_eq_true]at h;exact BU h.2 hd
   |arr z xs=>simp only[okB]at h;exact BU h hd
   |ow p l xs=>simp only[okB]at h;exact BU h hd
   |lp=>simp only[okB,Bool.and_eq_true]at h;exact BU h.2 hd
theorem Lm{b:List (Nat×Ob)}{f:Nat→Prop}(hf: ∀d ob,look d b=some ob→f d){t t':List (Nat×AV)}(ht:wkT t t')(iQ:V9 b t'=true){T:Array Value}(h: ∀d x,look d t=some x→Cz E x (T.getD d undef)):
  ∀d x,look d t'=some x→Cz (E.only f) x (T.getD d undef):=by
 intro d x hd;refine Cz.only hf ?_ (Aw iQ d x hd);have h1:=I9 ht d x hd
 cases hl:look d t with
 |none=>rw[hl]at h1;exact gR h1 (.any _)
 |some y=>rw[hl]at h1;exact gR h1 (h d y hl)
theorem jP.wk{b:List (Nat×Ob)}{f:Nat→Prop}(hf: ∀d ob,look d b=some ob→f d): ∀{aa:List Act} {fs fs':List Fr},wkU fs fs'→okU b fs'=true→jP E aa fs→jP (E.only f) aa fs'
 |[],[],[],_,_,_=>trivial
 |a::aa,g::fs,g'::fs',hw,iQ,h=>by
  simp only[okU,Bool.and_eq_true]at iQ;exact⟨⟨h.1.1.trans hw.1.1,Lm hf hw.1.2 iQ.1 h.1.2⟩,jP.wk hf hw.2 iQ.2 h.2⟩
 |[],_::_,_,_,_,h=>h.elim
 |_::_,[],_,_,_,h=>h.elim
 |[],[],_::_,hw,_,_=>hw.elim
 |_::_,_::_,[],hw,_,_=>hw.elim
theorem bq.wk(h:bq E0 E w0 w s a)(hw:wk s s'): ∃E',bq E0 E' w0 w s' a:=by
 obtain⟨hn,hc,hc',hg,hnx,ht,hb,hu,iQ,fS⟩:=hw;simp only[Sd,Bool.and_eq_true]at iQ;obtain⟨aiv,abj,aiu⟩:=iQ;have iQ:V9 s'.b s'.t=true∧okB s'.b s'.b=true:=⟨aiv,abj⟩
 let f:Nat→Prop:=fun d=> ∃ob,look d s'.b=some ob;have hf: ∀d ob,look d s'.b=some ob→f d:=fun d ob hd=>⟨ob,hd⟩
 have k:=JU E f
 have tm: ∀d x,look d s.t=some x→Cz E x (a.tmps.getD d undef):=fun d x hd=>h.tm d x hd (by unfold eP;rw[hc];trivial)
 refine⟨E.only f,⟨h.heap,⟨h.wf.aI,h.wf.own,h.wf.fz⟩,h.Kp,jP.wk hf hu aiu h.up,h.sz.trans hn,fun d x hd _=>?_,fun d q hd=>?_,fun d ob hd=>?_,fun d hl=>hl.2,fun i ob hi=>?_,fun i=>?_,?_,h.wI,h.same,hg▸h.gk,h.nl,h.ng,fun hl=>h.lo (fS.trans hl)⟩⟩
 ·refine Cz.only hf ?_ (Aw iQ.1 d x hd);have h1:=I9 ht d x hd
  cases hl:look d s.t with
  |none=>rw[hl]at h1;exact gR h1 (.any _)
  |some y=>rw[hl]at h1;exact gR h1 (tm d y hl)
 ·rw[hc']at hd;simp[look]at hd
 ·obtain⟨o0,h1,h2⟩:=PZ hb d ob hd;have h3:=h.bx d o0 h1
  cases o0 with
  |ow p l xs=>cases ob with
   |arr z xs=>exact h2.elim
   |box=>exact h2.elim
   |lp=>exact h2.elim
   |ow p' l' xs'=>
    obtain⟨rfl,rfl,rfl⟩:=h2;exact xH (E:=E) (E':=E.only f) (fun i hi=>⟨by cases d<;>exact hi,rfl,rfl⟩) (fun hl=>⟨hl,hf d _ hd⟩) rfl rfl (fun ho=>⟨ho,rfl,fun o hh=>hh⟩) (fun a x hi hc=>k.bX hc hi) (fun b hb _=>⟨hb,rfl,fun _=>Iff.rfl,rfl⟩) h3
  |lp n t ps nX body st=>cases ob with
   |arr z xs=>exact h2.elim
   |ow=>exact h2.elim
   |box=>exact h2.elim
   |lp n' t' YG Yg MV st'=>
    obtain⟨rfl,e2,rfl,rfl,rfl,rfl⟩:=h2;obtain⟨hl,ho,hs,rec,dM,h4,h5,h6,h7,h8,h9,hq⟩:=h3;exact⟨⟨hl,hf d _ hd⟩,ho,hs,rec,dM,h4,h5,h6,h7,h8,h9,Lm hf e2 (BU iQ.2 hd) hq⟩
  |box cs=>cases ob with
   |arr z xs=>exact h2.elim
   |ow=>exact h2.elim
   |lp=>exact h2.elim
   |box cs'=>
    obtain⟨hl,c,e,dM,ho,hs,dg,hq⟩:=h3;obtain⟨h4,h5⟩:=xB h2;refine⟨⟨hl,hf d _ hd⟩,c,e,dM,ho,hs,dg.trans h4,fun q av x ha hx=>?_⟩;obtain⟨a0,h6,h7⟩:=h5 q av ha;exact Cz.only hf (gR h7 (hq q a0 x h6 hx)) (qt (xI iQ.2 d _ hd) q av ha)
  |arr z xs=>cases ob with
   |box cs'=>exact h2.elim
   |ow=>exact h2.elim
   |lp=>exact h2.elim
   |arr z' xs'=>
    obtain⟨rfl,rfl⟩:=h2;obtain⟨hl,nQ,dw,hz,hm,c,e,dM,ho,hs,dg,hi,hq⟩:=h3;exact⟨⟨hl,hf d _ hd⟩,nQ,dw,hz,hm,c,e,dM,ho,hs,dg,hi,fun q av x ha hx=>k.bX (hq q av x ha hx) (hi q av ha)⟩
 ·exact k.ob (h.gk i ob (hg▸hi)) (h.gx i ob (hg▸hi))
 ·rw[←hnx];exact h.gl i
 ·exact⟨h.ext.size,h.ext.aI,fun q hq=>by
   cases q with
   |s d=>exact absurd hq (h.nl (.s d) rfl)
   |r d j=>exact absurd hq (h.nl (.r d j) rfl)
   |o i=>exact h.ext.live (.o i) hq,h.ext.bw⟩
theorem cf.cell{x:Addr}{v:Value}(h:cf w w')(hc:w.cell? x=some v):w'.cell? x=some v:=by
 unfold World.cell? at*;cases hb:w.heap[x.block]? with
 |none=>rw[hb]at hc;simp at hc
 |some o=>rw[h.get hb];rw[hb]at hc;exact hc
theorem RF{P:Program}{w:World}{at_:Addr}{u:TypeId}{k:Addr}{b:Bool}(h:w.heap[at_.block]? =none): ∀r,w.seen P at_ u k b≠ .ok r:=by
 intro r hr;simp only[World.seen,h,bind,Except.bind,throwThe,MonadExceptOf.throw,pure,Except.pure]at hr;repeat' split at hr
 all_goals first|cases hr|skip
 all_goals simp at*
theorem cf.seen{at_:Addr}{u:TypeId}{k:Addr}{b:Bool}(h:cf w w'){r}(hr:w.seen P at_ u k b= .ok r):w'.seen P at_ u k b= .ok r:=by
 cases hb:w.heap[at_.block]? with
 |none=>exact absurd hr (RF hb r)
 |some x=>
  have dM:=h.get hb
  rw[←hr];simp only[World.seen,hb,dM]
theorem cf.view{at_:Addr}{u:TypeId}{k:Addr}{b:Bool}(h:cf w w'){r}(hr:w.viewLoad P at_ u k b= .ok r):w'.viewLoad P at_ u k b= .ok r:=by
 cases hs:w.seen P at_ u k b with
 |error e=>simp[World.viewLoad,hs,bind,Except.bind]at hr
 |ok t=>rw[←hr];simp only[World.viewLoad,hs,h.seen hs]
theorem cf.far{x:Addr}{b:Bool}(h:cf w w'){r}(hr:w.farLoad P x b= .ok r):w'.farLoad P x b= .ok r:=by
 unfold World.farLoad at*;cases hb:w.heap[x.block]? with
 |none=>rw[hb]at hr;simp at hr
 |some o=>
  rw[h.get hb];rw[hb]at hr;cases o<;>simp only at hr ⊢ <;>try(cases hr;done)
  rename_i at_ u;cases hv:w.viewLoad P at_ u x b with
  |error e=>rw[hv]at hr;simp at hr
  |ok t=>rw[h.view hv];rw[hv]at hr;exact hr
def DZ{α:Type}:Sem α→Prop
 | .pure _=>True
 | .halt _=>True
 | .load _ _ k=> ∀v,DZ (k v)
 | .program k=> ∀p,DZ (k p)
 | .mark _ k=>DZ k
 |_=>False
def cM(R:World→World→Prop)(P:Program){α:Type}(m:Sem α):Prop:= ∀w w' v w1,R w w'→m.run P w= .ok v w1→w1=w∧m.run P w'= .ok v w'
theorem Ls{α:Type}{x:Sem α}(hx:DZ x):cM cf P x:=by
 induction x with
 |pure a=>intro w w' v w1 _ h;simp only[Sem.run]at h ⊢;cases h;exact⟨rfl,rfl⟩
 |halt h=>intro w w' v w1 _ h;simp[Sem.run]at h
 |load m ad k ih=>
  intro w w' v w1 hR h;simp only[Sem.run]at h ⊢;cases hc:w.cell? ad with
  |some y=>
   rw[hc]at h;rw[hR.cell hc];exact ih y (hx y) w w' v w1 hR h
  |none=>
   rw[hc]at h;dsimp only at h;cases hf:w.farLoad P ad (m== .atomic)with
   |error e=>rw[hf]at h;cases h
   |ok t=>
    rw[hf]at h;obtain⟨y,l⟩:=t;have h2:=hR.far hf
    have hc':w'.cell? ad=none:=by
     unfold World.farLoad at hf;unfold World.cell? at hc ⊢;cases hb:w.heap[ad.block]? with
     |none=>rw[hb]at hf;simp at hf
     |some o=>rw[hR.get hb];rw[hb]at hc;exact hc
    rw[hc',h2];exact ih y (hx y) w w' v w1 hR h
 |shape r k ih=>exact hx.elim
 |frozen a k ih=>exact hx.elim
 |getObj r k ih=>exact hx.elim
 |program k ih=>intro w w' v w1 hR h;simp only[Sem.run]at h ⊢;exact ih P (hx P) w w' v w1 hR h
 |mark m k ih=>intro w w' v w1 hR h;simp only[Sem.run]at h ⊢;exact ih hx w w' v w1 hR h
 |store m a v k _=>exact hx.elim
 |new o k _=>exact hx.elim
 |freeze a n k _=>exact hx.elim
 |setObj r o k _=>exact hx.elim
 |choose q k _=>exact hx.elim
 |sys c k _=>exact hx.elim
theorem DZ.bind'{α β:Type}{x:Sem α}{f:α→Sem β}(hx:DZ x)(hf: ∀a,DZ (f a)):DZ (x.bind f):=by
 induction x with
 |pure a=>exact hf a
 |halt h=>exact trivial
 |load m a k ih=>exact fun v=>ih v (hx v)
 |shape r k ih=>exact hx.elim
 |frozen a k ih=>exact hx.elim
 |getObj r k ih=>exact hx.elim
 |program k ih=>exact fun p=>ih p (hx p)
 |mark m k ih=>exact ih hx
 |store m a v k _=>exact hx.elim
 |new o k _=>exact hx.elim
 |freeze a n k _=>exact hx.elim
 |setObj r o k _=>exact hx.elim
 |choose q k _=>exact hx.elim
 |sys c k _=>exact hx.elim
theorem DZ.bind{α β:Type}{x:Sem α}{f:α→Sem β}(hx:DZ x)(hf: ∀a,DZ (f a)):DZ (x >>= f):=hx.bind' hf
section
variable{R:World→World→Prop}
theorem cM.bind{α β:Type}{x:Sem α}{f:α→Sem β}(hx:cM R P x)(hf: ∀a,cM R P (f a)):cM R P (x >>= f):=by
 intro w w' v w1 hR h;rw[Sem.run_bind]at h ⊢;cases hr:x.run P w with
 |halt y w2=>rw[hr]at h;cases h
 |ok y w2=>
  rw[hr]at h;obtain⟨rfl,h2⟩:=hx w w' y w2 hR hr;rw[h2];exact hf y w2 w' v w1 hR h
theorem bI{α:Type}(x:α):cM R P (pure x:Sem α):=by
 intro w w' v w1 _ h;cases h;exact⟨rfl,rfl⟩
theorem eY{α:Type}{m:Sem α}(h: ∀w v w1,m.run P w≠ .ok v w1):cM R P m:=fun w _ v w1 _ hr=>absurd hr (h w v w1)
theorem eS{α:Type}(s:String):cM R P (stuck s:Sem α):=eY fun w v w1 h=>by cases h
theorem qF{α:Type}(u:Unsupported):cM R P (unsupported u:Sem α):=eY fun w v w1 h=>by cases h
theorem wj{α β:Type}{x:Sem α}{f:α→Sem β}(hf: ∀a w v w1,(f a).run P w≠ .ok v w1): ∀w v w1,(x >>= f).run P w≠ .ok v w1:=by
 intro w v w1 h;rw[Sem.run_bind]at h;cases hr:x.run P w with
 |halt y w2=>rw[hr]at h;cases h
 |ok y w2=>rw[hr]at h;exact hf y w2 v w1 h
theorem LP{α:Type}(x y:Int)(b:Bool)(c:BoundsCode): ∀w v w1,(runtimePanic (.bounds x y b c):Sem α).run P w≠ .ok v w1:=by
 unfold runtimePanic;refine wj fun p w v w1=>?_;intro h;cases h
theorem gv{α:Type}(k:IntKind)(x y:Int)(c:BoundsCode): ∀w v w1,(boundsPanic k x y c:Sem α).run P w≠ .ok v w1:=by
 unfold boundsPanic;dsimp only
 split<;>exact wj fun _=>LP _ _ _ _
theorem iy(t:TypeId):cM R P (underlying t):=by
 unfold underlying;intro w w' v w1 _ h;simp only[Sem.run_bind,program,Sem.run,Result.andThen]at h ⊢;cases hh:P.underlying t<;>rw[hh]at h<;>simp only at h ⊢ <;>cases h;exact⟨rfl,rfl⟩
theorem CJ(t:TypeId):cM R P (typeInfo t):=by
 unfold typeInfo;intro w w' v w1 _ h;simp only[Sem.run_bind,program,Sem.run,Result.andThen]at h ⊢;cases hh:P.info? t<;>rw[hh]at h<;>simp only at h ⊢ <;>cases h;exact⟨rfl,rfl⟩
theorem jR(t:TypeId):cM R P (Go.sizeOf t):=by
 unfold Go.sizeOf;exact(CJ t).bind fun _=>bI _
theorem EZ(t:TypeId):cM R P (isAgg t):=by
 unfold isAgg;refine(iy t).bind fun d=>?_
 split<;>exact bI _
theorem EX(v:Value):cM R P (asIntOf v):=by
 unfold asIntOf
 split
 ·exact bI _
 ·exact qF _
 ·exact eS _
theorem CH(v:Value):cM R P (Instr.sureAddr v):=by
 unfold Instr.sureAddr
 split
 ·exact bI _
 ·exact eS _
end
theorem CI(x:Addr)(m:Mode):cM cf P (load x m):=Ls (fun _=>trivial)
theorem Af(x:Addr): ∀(n i:Nat) (acc:Array Value),cM cf P (loadCellsFrom x i n acc)
 |0,_,_=>bI _
 |n+1,i,acc=>by
  unfold loadCellsFrom;exact(CI _ _).bind fun v=>Af x n (i+1) (acc.push v)
theorem yw(t:TypeId)(v:Value):cM cf P (Instr.loadAt t v):=by
 unfold Instr.loadAt;refine(CH v).bind fun x=>?_;unfold loadVar;refine(EZ t).bind fun b=>?_
 split
 ·exact(jR t).bind fun n=>((Af x n 0 #[]).bind fun _=>bI _)
 ·exact CI _ _
theorem EY{R:World→World→Prop}(t:TypeId)(v i:Value):cM R P (Instr.indexAt t v i):=by
 unfold Instr.indexAt;refine(EX i).bind fun ki=>?_;obtain⟨k,n⟩:=ki;dsimp only;refine(iy t).bind fun d=>?_
 split
 ·refine(CH _).bind fun _=>?_;refine cM.bind (bI _) fun y=>?_;refine(iy t).bind fun d=>?_
  split
  ·split
   ·exact(jR _).bind fun _=>bI _
   ·repeat' first
     |exact qF _
     |exact eY (gv _ _ _ _)
     |split
  ·exact eY (gv _ _ _ _)
 ·refine cM.bind (bI _) fun y=>?_;refine(iy t).bind fun d=>?_
  split
  ·split
   ·exact(jR _).bind fun _=>bI _
   ·repeat' first
     |exact qF _
     |exact eY (gv _ _ _ _)
     |split
  ·exact eY (gv _ _ _ _)
 ·refine cM.bind (eS _) fun y=>?_;refine(iy t).bind fun d=>?_
  split
  ·split
   ·exact(jR _).bind fun _=>bI _
   ·repeat' first
     |exact qF _
     |exact eY (gv _ _ _ _)
     |split
  ·exact eY (gv _ _ _ _)
theorem Lj{R:World→World→Prop}(t:TypeId)(cs:Array Value)(o:Nat):cM R P (Go.part t cs o):=by
 unfold Go.part;refine(EZ t).bind fun b=>?_;repeat' first
  |exact bI _
  |exact eS _
  |refine cM.bind (jR _) fun _=>?_
  |split
  |dsimp only
theorem Jn{R:World→World→Prop}(t:TypeId)(v i:Value):cM R P (Instr.index t v i):=by
 unfold Instr.index;refine(EX i).bind fun ki=>?_;obtain⟨k,n⟩:=ki;dsimp only;refine(iy t).bind fun d=>?_
 split
 ·split
  ·exact(jR _).bind fun _=>Lj _ _ _
  ·exact eY (gv _ _ _ _)
 ·split
  ·exact bI _
  ·exact eY (gv _ _ _ _)
 ·exact eS _
def gP(R:World→World→Prop)(P:Program)(ops:Array Oper)(o:Oper)(v:Value)(a:Act)(w:World):Prop:=
 (Region.wanted o (yielded ops a.tmps)=true∧ ∀w',R w w'→(execOp a.eval o).run P w'= .ok (.value v) w')∨
 (Region.wanted o (yielded ops a.tmps)=false∧v=undef)
section
variable{R:World→World→Prop}{ops:Array Oper}{Q:Exit→Act→World→Prop}{md:Region.Mode}
theorem gP.of_same{o:Oper}{v:Value}{a a':Act}(hy:gP R P ops o v a w)(he:execOp a'.eval o=execOp a.eval o)
  (hw:Region.wanted o (yielded ops a'.tmps)=Region.wanted o (yielded ops a.tmps)):gP R P ops o v a' w:=by
 unfold gP at*;rw[he,hw];exact hy
theorem gP.later(Ng: ∀a b c,R a b→R b c→R a c){o:Oper}{v:Value}{a:Act}(hy:gP R P ops o v a w)(hR:R w w'):gP R P ops o v a w':=
 hy.imp (fun h=>⟨h.1,fun w2 h2=>h.2 w2 (Ng _ _ _ hR h2)⟩) id
def CZ:Op→Bool
 | .move _=>true
 | .assign _=>true
 | .pick _ _ _=>true
 | .binOp _ _ _ _ _=>true
 | .unOp _ _ _=>true
 | .fieldAddr _ _ _=>true
 | .nilCheck _=>true
 | .extract _ _=>true
 | .build _ _=>true
 | .load _ _=>true
 | .indexAddr _ _ _=>true
 | .index _ _ _=>true
 | .call c=>match c.callee with
  | .builtin .len=>true
  |_=>false
 |_=>false
def QO:Op→Bool
 | .alloc _=>true
 | .box _ _=>true
 | .buildSlice _ _ _=>true
 | .makeFunc _ _ _=>true
 |_=>false
def Gz(cl:Nat→Bool)(o:Op):Bool:=CZ o||(QO o||mI cl o)
def tZ(P:Program){α:Type}(m:Sem α):Prop:= ∀w v w1,m.run P w= .ok v w1→cf w w1
theorem tZ.bind{α β:Type}{x:Sem α}{f:α→Sem β}(hx:tZ P x)(hf: ∀a,tZ P (f a)):tZ P (x >>= f):=by
 intro w v w1 h;rw[Sem.run_bind]at h;cases hr:x.run P w with
 |halt y w2=>rw[hr]at h;cases h
 |ok y w2=>rw[hr]at h;exact(hx w y w2 hr).trans (hf y w2 v w1 h)
theorem cM.C9{α:Type}{m:Sem α}(h:cM (fun _ _=>True) P m):tZ P m:=fun w v w1 hr=>by
 have e:=(h w w v w1 trivial hr).1
 rw[e];exact cf.refl _
theorem iJ{α:Type}(x:α):tZ P (pure x:Sem α):=(bI x).C9
theorem Ce(t:TypeId)(cells:Array Value):tZ P (newRow t cells):=by
 unfold newRow newObj;refine tZ.bind ?_ fun _=>iJ _;intro w v w1 h;simp only[Sem.run]at h;cases h;intro b hb;exact(Array.getElem?_push_lt hb).trans (Array.getElem?_eq_getElem hb).symm
theorem It(t:TypeId)(v:Value):tZ P (newVar t v):=Ce t _
theorem Gc(t:TypeId):tZ P (zeroValue t):=by
 unfold zeroValue;refine(CJ t).C9.bind fun i=>?_
 split
 ·exact iJ _
 ·exact(qF _).C9
theorem Xr{o:Oper}(hg:QO o.op=true)(ρ:Operand→Value){w w':World}{n:Next}(h:(execOp ρ o).run P w= .ok n w'):(∃v,n= .value v)∧cf w w':=by
 have fin: ∀{m:Sem Value},tZ P m→(do pure (.value (←m)):Sem Next).run P w= .ok n w'→(∃v,n= .value v)∧cf w w':=by
  intro m hm h;rw[Sem.run_bind]at h;cases hr:m.run P w with
  |halt y w2=>rw[hr]at h;cases h
  |ok y w2=>rw[hr]at h;cases h;exact⟨⟨y,rfl⟩,hm w y w' hr⟩
 unfold QO at hg
 split at hg
 ·rename_i e he;simp only[execOp,he]at h;refine fin ?_ h;unfold Instr.alloc;exact(Gc _).bind fun z=>(It _ _).bind fun _=>iJ _
 ·rename_i e x he;simp only[execOp,he]at h;refine fin ?_ h;unfold Instr.box;exact(It _ _).bind fun _=>iJ _
 ·rename_i t len parts he;simp only[execOp,he]at h;refine fin ?_ h;unfold Instr.buildSlice;refine(iy t).C9.bind fun d=>?_
  split
  ·refine(jR _).C9.bind fun z=>?_;dsimp only
   split
   ·exact fun w v w1 h=>by cases h
   ·split
    ·refine tZ.bind (iJ _) fun zero=>?_
     split
     ·exact(Ce _ _).bind fun _=>iJ _
     ·exact(eS _).C9
    ·refine(Gc _).bind fun l=>tZ.bind (iJ _) fun zero=>?_
     split
     ·exact(Ce _ _).bind fun _=>iJ _
     ·exact(eS _).C9
  ·exact(eS _).C9
 ·rename_i f first cap he
  simp only[execOp,he]at h;exact fin (iJ _) h
 ·cases hg
def kP(P:Program)(cl:Nat→Bool)(ops:Array Oper)(Q:Exit→Act→World→Prop)(i:Nat)(K:Act→World→Prop)(a:Act)(w:World):Prop:=
 match ops[i]? with
 |none=>K a w
 |some o=>if Region.wanted o (yielded ops a.tmps)then lz P o a w (fun a' w'=>K a' w'∧(Gz cl o.op=true→cf w w')) Q else K (a.put o.dst undef) w
theorem yX{cl:Nat→Bool}{i:Nat}{a:Act}{w:World}{K K':Act→World→Prop}(h: ∀a w,K a w→K' a w)(hh:kP P cl ops Q i K a w):kP P cl ops Q i K' a w:=by
 unfold kP at*;cases ho:ops[i]? with
 |none=>rw[ho]at hh;exact h _ _ hh
 |some o=>
  rw[ho]at hh;dsimp only at hh ⊢
  split
  ·rename_i hw;rw[if_pos hw]at hh;exact lz.mono (fun a w h2=>⟨h _ _ h2.1,h2.2⟩) hh
  ·rename_i hw;rw[if_neg hw]at hh;exact h _ _ hh
def qC(P:Program)(cl:Nat→Bool)(md:Region.Mode)(ops:Array Oper)(Q:Exit→Act→World→Prop):Nat→Array Bool→Act→World→Prop
 |0,listed,a,w=>Region.ready md ops listed=[]∧Q .normal a w
 |fuel+1,listed,a,w=>
  (Region.ready md ops listed=[]→Q .normal a w)∧
  ∀i∈Region.ready md ops listed,kP P cl ops Q i (qC P cl md ops Q fuel (listed.setIfInBounds i true)) a w
theorem qB{cl:Nat→Bool}(ro:Option Nat): ∀(fuel:Nat) (listed:Array Bool) (a:Act) (w:World),qC P cl md ops Q fuel listed a w→wpAnyIn (WF ro) 0 P md ops Q fuel listed a w
 |0,_,_,_,h=>h
 |fuel+1,listed,a,w,h=>by
  refine⟨h.1,fun i hi=>?_⟩;have h1:=h.2 i hi
  unfold kP at h1;unfold wpOpIn;cases ho:ops[i]? with
  |none=>rw[ho]at h1;exact qB ro fuel _ _ _ h1
  |some o=>
   rw[ho]at h1;dsimp only at h1 ⊢
   split
   ·rename_i hw;rw[if_pos hw]at h1;exact(lz.mono (fun a w h2=>qB ro fuel _ _ _ h2.1) h1).wpIn ro
   ·rename_i hw;rw[if_neg hw]at h1;exact⟨fun _ _=>trivial,qB ro fuel _ _ _ h1⟩
theorem gP.kP{cl:Nat→Bool}(hrf: ∀w,R w w){i:Nat}{o:Oper}{v:Value}{a:Act}{w:World}(hi:ops[i]? =some o)(hy:gP R P ops o v a w){K:Act→World→Prop}(h:K (a.put o.dst v) w):kP P cl ops Q i K a w:=by
 unfold Ab.kP;rw[hi];dsimp only;rcases hy with⟨hw,hv⟩|⟨hw,rfl⟩
 ·rw[if_pos hw];unfold lz;rw[hv w (hrf w)];exact⟨h,fun _=>cf.refl w⟩
 ·rw[if_neg (by rw[hw];simp)];exact h
theorem Rr{cl:Nat→Bool}(Ng: ∀a b c,R a b→R b c→R a c){j:Nat}{oi oj:Oper}{v:Value}(hj:ops[j]? =some oj)(hap:oi.apart ops oj=true)
  (anW:(∀w w',R w w')∨(Gz cl oj.op=true∧ ∀w w',cf w w'→R w w'))
  (hsi: ∀cs b,oi.op≠ .select cs b)(hsj: ∀cs b,oj.op≠ .select cs b)
  (hQ: ∀c a w,Q (.panic c) (a.put oi.dst v) w→Q (.panic c) a w){K:Act→World→Prop}{a:Act}{w:World}
  (hy:gP R P ops oi v a w)(h:kP P cl ops Q j K (a.put oi.dst v) w):
  kP P cl ops Q j (fun a' w'=>gP R P ops oi v a' w'∧K (a'.put oi.dst v) w') a w:=by
 obtain⟨h1,h2,h3⟩:=Oper.apart_spec hap;have bw: ∀(a:Act) (w:World),gP R P ops oi v a w→ ∀u,gP R P ops oi v (a.put oj.dst u) w:=fun a w hy u=>
  hy.of_same (execOp_put oi hsi a oj.dst u h3) (wanted_put oi a oj.dst u h3)
 have keepD: ∀d,gP R P ops oi v {a with defers:=d::a.defers} w:=fun d=>hy.of_same rfl rfl
 have hm: ∀w',(Gz cl oj.op=true→cf w w')→R w w':=fun w' DM=>anW.elim (fun h=>h _ _) fun h=>h.2 _ _ (DM h.1)
 unfold kP at*;rw[hj]at h ⊢;dsimp only at h ⊢;rw[wanted_put oj a oi.dst v h1]at h
 split
 ·rename_i hw;rw[if_pos hw]at h;unfold lz at*;rw[execOp_put oj hsj a oi.dst v h1]at h;cases hr:(execOp a.eval oj).run P w with
  |ok n w'=>
   rw[hr]at h;cases n<;>simp only[EP]at h ⊢
   case value u=>exact⟨⟨bw a w' (hy.later Ng (hm _ h.2)) u,by rw[←Act.put_comm a v u h2];exact h.1⟩,h.2⟩
   case skip=>exact⟨⟨bw a w' (hy.later Ng (hm _ h.2)) _,by rw[←Act.put_comm a v undef h2];exact h.1⟩,h.2⟩
   case enter f args=>
    refine Calls.mono h ?_
    rintro e T1 ⟨u,rfl,he⟩
    exact⟨u,rfl,⟨bw a T1 (hy.later Ng (hm _ he.2)) u,by rw[←Act.put_comm a v u h2];exact he.1⟩,he.2⟩
   case round l f tmps nX body=>
    refine RoundIn.mono h ?_
    rintro e T1 ⟨u,rfl,he⟩
    exact⟨u,rfl,⟨bw a T1 (hy.later Ng (hm _ he.2)) u,by rw[←Act.put_comm a v u h2];exact he.1⟩,he.2⟩
  |halt x w'=>
   rw[hr]at h;simp only[EP]at h
 ·rename_i hw;rw[if_neg hw]at h;exact⟨bw a w hy _,by rw[←Act.put_comm a v undef h2];exact h⟩
theorem I7{cl:Nat→Bool}(Ng: ∀a b c,R a b→R b c→R a c)(hrf: ∀w,R w w){i:Nat}{oi:Oper}{v:Value}(hi:ops[i]? =some oi)(anL: ∀(j:Nat) (o:Oper) cs b,ops[j]? =some o→o.op≠ .select cs b)
  (hQ: ∀c a w,Q (.panic c) (a.put oi.dst v) w→Q (.panic c) a w)(M:Nat→Prop)
  (aob: ∀j oj,ops[j]? =some oj→j≠i→M j→oi.apart ops oj=true∧((∀w w',R w w')∨(Gz cl oj.op=true∧ ∀w w',cf w w'→R w w'))):
  ∀(fuel:Nat) (listed:Array Bool) (a:Act) (w:World),
   (∀(l:Array Bool) (j:Nat),(∀k,listed.getD k false=true→l.getD k false=true)→(∀k,l.getD k false=true→listed.getD k false=true∨M k)→j≠i→j∈Region.ready md ops l→M j)→
   i∈Region.ready md ops listed→gP R P ops oi v a w→
   qC P cl md ops Q fuel (listed.setIfInBounds i true) (a.put oi.dst v) w→qC P cl md ops Q (fuel+1) listed a w:=by
 intro fuel
 induction fuel with
 |zero=>
  intro listed a w _ hr hy H;refine⟨fun h=>(by rw[h]at hr;cases hr),fun j hj=>?_⟩;by_cases QK:j=i
  ·subst QK;exact hy.kP hrf hi H
  ·have:=ready_mono hj QK
   rw[H.1]at this;cases this
 |succ fuel ih=>
  intro listed a w hM hr hy H;refine⟨fun h=>(by rw[h]at hr;cases hr),fun j hj=>?_⟩;by_cases QK:j=i
  ·subst QK;exact hy.kP hrf hi H
  ·have h1:=H.2 j (ready_mono hj QK)
   obtain⟨SN,oj,hoj,jN⟩:=mem_ready.1 hj;have hMj:M j:=hM listed j (fun k hk=>hk) (fun k hk=> .inl hk) QK hj
   obtain⟨hap,YY⟩:=aob j oj hoj QK hMj;have h2:=Rr Ng hoj hap YY (fun cs b=>anL i oi cs b hi) (fun cs b=>anL j oj cs b hoj) hQ hy h1
   refine yX (fun a' w' h3=>ih (listed.setIfInBounds j true) a' w' (fun l k hs hl hki hk=>hM l k (fun k2 F6=>hs k2 (getD_set_true F6)) (fun k2 F6=>?_) hki hk) (ready_mono hr (Ne.symm QK)) h3.1 ?_) h2
   ·rcases hl k2 F6 with h4|h4
    ·by_cases hjk:j=k2
     ·subst hjk;exact .inr hMj
     ·rw[getD_set_ne false hjk]at h4;exact .inl h4
    ·exact .inr h4
   ·rw[Array.setIfInBounds_comm _ _ QK];exact h3.2
end
end Ab
namespace Ab
open Go
variable{P:Program}{L:nK}{E0 E E':Env}{w0 w w':World}{s s':St}{a:Act}{p:Path}{C:dx}
theorem Rs(ok:Ok P C)(h:bq E0 E w0 w s a){o:Oper}{K:bd}(hm:CZ o.op=true)(hk:YD C p o s K):
  M5 P E0 w0 w a o s p K∧ ∀w' v,bc s p→(cf w w'∨ ∀t x,o.op≠ .load t x)→(execOp a.eval o).run P w= .ok (.value v) w→(execOp a.eval o).run P w'= .ok (.value v) w':=by
 have gh: ∀{K:bd},Reads P E w a o s p K→M5 P E0 w0 w a o s p K:=fun{K} ⟨r,hk,hx⟩=>⟨r,s,E,hk,h,fun _=>Iff.rfl,hx⟩
 unfold YD at hk
 split at hk<;>rename_i he<;>(try(rw[he]at hm;cases hm;done))
 ·refine⟨gh (nY (neg:=false) ok.al ok.lay ok.eqs h he hk),fun w' v hp _ hr=>?_⟩;exact K1 (neg:=false) ok.lay ok.eqs h he hk hp hr w'
 ·refine⟨gh (nY (neg:=true) ok.al ok.lay ok.eqs h he hk),fun w' v hp _ hr=>?_⟩;exact K1 (neg:=true) ok.lay ok.eqs h he hk hp hr w'
 ·refine⟨gh (v5 ok.al h he hk),fun w' v _ _ hr=>?_⟩;have hs:cM (fun _ _=>True) P (execOp a.eval o):=by
   simp only[execOp,he];refine cM.bind ?_ fun b=>?_
   ·unfold asBool;split
    ·exact bI _
    ·exact eS _
   ·exact bI _
  exact(hs w w' _ _ trivial hr).2
 ·refine⟨?_,fun w' v _ hA hr=>?_⟩
  ·cases fS:xa C 2000 o.dst with
   |false=>rw[fS]at hk;exact gh (ug ok.lay ok.al h he hk)
   |true=>
    rw[fS,aE]at hk
    split at hk
    ·exact CE ok.lay h he hk
    ·exact hk.elim
  have hs:cM cf P (execOp a.eval o):=by
   simp only[execOp,he];exact(yw _ _).bind fun _=>bI _
  rcases hA with hA|hA
  ·exact(hs w w' _ _ hA hr).2
  ·exact absurd he (hA _ _)
 ·split at hk
  ·rename_i n hn;refine⟨gh (yV ok.lay ok.al h he hn hk),fun w' v _ _ hr=>?_⟩;have hs:cM (fun _ _=>True) P (execOp a.eval o):=by
    simp only[execOp,he];exact(EY _ _ _).bind fun _=>bI _
   exact(hs w w' _ _ trivial hr).2
  ·exact hk.elim
 ·split at hk
  ·rename_i n hn;refine⟨gh (uh ok.lay h he hn hk),fun w' v _ _ hr=>?_⟩;have hs:cM (fun _ _=>True) P (execOp a.eval o):=by
    simp only[execOp,he];exact(Jn _ _ _).bind fun _=>bI _
   exact(hs w w' _ _ trivial hr).2
  ·exact hk.elim
 ·rename_i c he
  split at hk
  ·rename_i f hc;rw[he]at hm;simp only[CZ,hc]at hm;cases hm
  ·rename_i b hc;rw[he]at hm;simp only[CZ,hc]at hm;have hk0:=hk
   unfold zZ at hk
   split at hk
   ·cases hm
   ·cases hm
   ·refine⟨gh (B5 ok h he hc hk),fun w' v xQ _ hr=>?_⟩
    split at hk
    ·rename_i k m hp;rw[ok.al]at hp;obtain⟨x,h1,_⟩:=wu ok.lay h xQ (by rw[he];exact Mj hc hp);have hb:Yd o.op=true:=by rw[he];rfl
     have h2:=h1 w (fun e=>absurd (hb.symm.trans e) (by decide))
     rw[hr]at h2;cases h2;exact h1 w' (fun e=>absurd (hb.symm.trans e) (by decide))
    ·exact hk.elim
   ·exact hk.elim
  ·exact hk.elim
 ·exact hk.elim
def Y7(o:Op)(w w':World):Prop:=
 match o with
 | .load _ _=>cf w w'
 | .build _ _=>w'=w
 |_=>True
theorem EK(ok:Ok P C){ops:Array Oper}{K:St→Prop}{o:Oper}(h:bq E0 E w0 w s a)(hm:CZ o.op=true)(hk:I8 C ops.toList o s K):
  ∃v,gP (Y7 o.op) P ops o v a w∧Dt E0 w0 K (a.put o.dst v) w:=by
  have adW: ∀{p:Path} {r:AV},bc s p→sB al C.L s p o.op=some r→ ∃x,(∀w',Y7 o.op w w'→(execOp a.eval o).run P w'= .ok (.value x) w')∧Cz E r x:=by
   intro p r hp hr;obtain⟨x,h1,h2⟩:=wu ok.lay h hp hr;refine⟨x,fun w' hR=>?_,h2⟩;cases ho:o.op<;>rw[ho]at hm hR h1<;>first|(exact h1 w' (fun e=>absurd (show true=false from e) (by decide)))|(cases hm;done)|skip
   ·have e:w'=w:=hR
    exact h1 w' fun _=>e
   ·have hs:cM cf P (execOp a.eval o):=by
     simp only[execOp,ho];exact(yw _ _).bind fun _=>bI _
    exact(hs w w' _ _ hR (h1 w fun _=>rfl)).2
  have QE: ∀{p:Path} {K:bd},YD C p o s K→ ∃r s' E',K r s'∧bq E0 E' w0 w s' a∧(∀q,bc s' q↔bc s q)∧(bc s p→ ∃x,(∀w',Y7 o.op w w'→(execOp a.eval o).run P w'= .ok (.value x) w')∧Cz E' r x):=by
   intro p K hk;obtain⟨⟨r,s',E',h1,hS,hP,h2⟩,h3⟩:=Rs ok h hm hk;refine⟨r,s',E',h1,hS,hP,fun hp=>?_⟩;obtain⟨x,h4,h5⟩:=h2 hp;refine⟨x,fun w' hR=>h3 w' x hp ?_ h4,h5⟩;by_cases hl: ∃t y,o.op= .load t y
   ·obtain⟨t,y,hl⟩:=hl;rw[hl]at hR;exact .inl hR
   ·exact .inr fun t y e=>hl ⟨t,y,e⟩
  unfold I8 at hk;cases hg:o.guard with
  |none=>
   rw[hg]at hk;dsimp only at hk;have hwt:Region.wanted o (yielded ops a.tmps)=true:=by simp[Region.wanted,hg]
   cases hp:CT C.I C.L s [] o.op with
   |some r=>
    rw[hp]at hk;dsimp only at hk;rw[ok.al]at hp;replace hp:=uB hp;obtain⟨x,hr,hc⟩:=adW (p:=[]) trivial hp;exact⟨x,.inl ⟨hwt,hr⟩,_,_,hk.2,h.put hk.1 (fun _ _=>rfl) (.inl ⟨trivial,hc⟩)⟩
   |none=>
    rw[hp]at hk;dsimp only at hk;obtain⟨r,s',E',⟨hd,kh⟩,hS,hP,hx⟩:=QE hk;obtain⟨x,hr,hc⟩:=hx trivial;exact⟨x,.inl ⟨hwt,hr⟩,_,_,kh,hS.put hd (fun _ _=>rfl) (.inl ⟨trivial,hc⟩)⟩
  |some jb=>
   obtain⟨j,b⟩:=jb;rw[hg]at hk;dsimp only at hk;cases hj:ops.toList[j]? with
   |none=>rw[hj]at hk;exact hk.elim
   |some og=>
    rw[hj]at hk;dsimp only at hk;cases hd:og.dst with
    |none=>rw[hd]at hk;exact hk.elim
    |some d=>
     rw[hd]at hk;dsimp only at hk;cases hb:(xn s o.dst&&(isBool (look d s.t)&&MP o.dst d))with
     |false=>rw[hb]at hk;exact hk.elim
     |true=>
      rw[hb,aE]at hk;simp only[Bool.and_eq_true]at hb;obtain⟨GY,ye,DO⟩:=hb;have hw:=AU h hg (by rw[←Array.getElem?_toList];exact hj) hd ye
      have wU: ∀d',o.dst=some d'→J8 d' (eP s d++[(d,b)])=false:=by
       intro d' rF;rw[rF]at GY DO;simp only[xn,Bool.and_eq_true,Bool.not_eq_true']at GY;rw[J7,Ij GY.2];have ct: ¬d'=d:=fun e=>by subst e;simp[MP]at DO
       rw[zh (fun e=>ct e.symm)];rfl
      have hnw: ¬bc s (eP s d++[(d,b)])→Region.wanted o (yielded ops a.tmps)=false:=fun xQ=>by
       cases hwt:Region.wanted o (yielded ops a.tmps)with
       |false=>rfl
       |true=>exact absurd (hw.1 hwt) xQ
      cases hp:CT C.I C.L s (eP s d++[(d,b)]) o.op with
      |some r=>
       rw[hp]at hk;dsimp only at hk;rw[ok.al]at hp;replace hp:=uB hp;by_cases xQ:bc s (eP s d++[(d,b)])
       ·obtain⟨x,hr,hc⟩:=adW xQ hp;exact⟨x,.inl ⟨hw.2 xQ,hr⟩,_,_,hk.2,h.put hk.1 wU (.inl ⟨xQ,hc⟩)⟩
       ·exact⟨undef,.inr ⟨hnw xQ,rfl⟩,_,_,hk.2,h.put hk.1 wU (.inr ⟨xQ,rfl⟩)⟩
      |none=>
       rw[hp]at hk;dsimp only at hk;obtain⟨r,s',E',⟨nN,kh⟩,hS,hP,hx⟩:=QE hk;by_cases xQ:bc s (eP s d++[(d,b)])
       ·obtain⟨x,hr,hc⟩:=hx xQ;exact⟨x,.inl ⟨hw.2 xQ,hr⟩,_,_,kh,hS.put nN wU (.inl ⟨(hP _).2 xQ,hc⟩)⟩
       ·exact⟨undef,.inr ⟨hnw xQ,rfl⟩,_,_,kh,hS.put nN wU (.inr ⟨fun hh=>xQ ((hP _).1 hh),rfl⟩)⟩
theorem K8(ok:Ok P C){ops:Array Oper}{Q:Exit→Act→World→Prop}{K:St→Prop}{i:Nat}{o:Oper}(hi:ops[i]? =some o)(h:bq E0 E w0 w s a)(hk:I8 C ops.toList o s K):kP P C.cl ops Q i (Dt E0 w0 K) a w:=by
 unfold kP;rw[hi];dsimp only;by_cases hm:CZ o.op=true
 ·obtain⟨v,hy,hA⟩:=EK ok h hm hk;rcases hy with⟨hw,hv⟩|⟨hw,rfl⟩
  ·rw[if_pos hw];have hR:Y7 o.op w w:=by unfold Y7;split;exact cf.refl w;rfl;trivial
   unfold lz;rw[hv w hR];exact⟨hA,fun _=>cf.refl w⟩
  ·rw[if_neg (by rw[hw];simp)];exact hA
 ·have h1:=EL (Q:=Q) ok h hk
  split
  ·rename_i hw;rw[if_pos hw]at h1;by_cases hg:QO o.op=true
   ·unfold lz at h1 ⊢;cases hr:(execOp a.eval o).run P w with
    |halt y w2=>rw[hr]at h1;cases y<;>exact h1
    |ok n w2=>
     obtain⟨⟨v,rfl⟩,hA⟩:=Xr hg a.eval hr;rw[hr]at h1;exact⟨h1.1,fun _=>hA⟩
   ·exact lz.mono (fun a w h2=>⟨h2.1,fun yc=>h2.2 (by unfold Gz at yc;simpa[hm,hg]using yc)⟩) h1
  ·rename_i hw;rw[if_neg hw]at h1;exact h1
def inL(j:Nat):List Nat→Bool
 |[]=>false
 |k::r=>bQ k j||inL j r
def IK(ops:Array Oper)(listed:Array Bool)(i:Nat)(M:List Nat):List Nat:=
 (List.range ops.size).filter fun j=> !(bQ j i)&& !(listed.getD j true)&&(match ops[j]? with
  |some o=>o.after.all fun e=> !Region.binds .any e||listed.getD e.on false||inL e.on M
  |none=>false)
def ahead(ops:Array Oper)(listed:Array Bool)(i:Nat):Nat→List Nat→List Nat
 |0,M=>M
 |f+1,M=>bif bQ (IK ops listed i M).length M.length then M else ahead ops listed i f (IK ops listed i M)
def adl(o:Op):Bool:=match o with
 | .build _ _=>false
 |o=>CZ o
def O6(o:Op):Bool:=match o with
 | .load _ _=>true
 |_=>false
def Jm(cl:Nat→Bool)(ops:Array Oper)(listed:Array Bool)(i:Nat):Bool:=
 match ops[i]? with
 |none=>false
 |some oi=>
  let M:=ahead ops listed i ops.size []
  (Region.ready .any ops listed).contains i&&adl oi.op&&
  (M.all fun j=>match ops[j]? with
   |some oj=>oi.apart ops oj&&(!O6 oi.op||Gz cl oj.op)
   |none=>true)&&
  ((List.range ops.size).all fun j=>bQ j i||inL j M||listed.getD j false||(match ops[j]? with
   |some oj=>oj.after.any fun e=>Region.binds .any e&& !(listed.getD e.on false)&& !(inL e.on M)
   |none=>false))
def Cs(cl:Nat→Bool)(ops:Array Oper):Tree→Nat→Array Bool→Option (List Nat)→Bool
 | .done,_,l,none=>(Region.ready .any ops l).isEmpty
 | .one i t,f+1,l,none=>Jm cl ops l i&&Cs cl ops t f (l.setIfInBounds i true) none
 | .aj i t u,f+1,l,none=>match Region.ready .any ops l with
  |r::rs=>bQ r i&&Cs cl ops t f (l.setIfInBounds i true) none&&Cs cl ops u (f+1) l (some rs)
  |[]=>false
 | .aj i t u,f+1,l,some (r::rs)=>bQ r i&&Cs cl ops t f (l.setIfInBounds i true) none&&Cs cl ops u (f+1) l (some rs)
 | .nil,_+1,_,some []=>true
 |_,_,_,_=>false
theorem J9{j:Nat}: ∀{M:List Nat},inL j M=true↔j∈M
 |[]=>by simp[inL]
 |k::r=>by
  simp only[inL,Bool.or_eq_true,List.mem_cons,J9 (M:=r)];constructor
  ·rintro(h|h)
   ·exact .inl (cY h).symm
   ·exact .inr h
  ·rintro(h|h)
   ·exact .inl (by subst h;exact eE j)
   ·exact .inr h
theorem NM(ok:Ok P C){ops:Array Oper}{Q:Exit→Act→World→Prop}(hs:Region.noSelect ops=true)(hQ: ∀c a w,¬Q (.panic c) a w){K:St→Prop}{i:Nat}{oi:Oper}{fuel:Nat}{listed:Array Bool}(hi:ops[i]? =some oi)(ht:Jm C.cl ops listed i=true)
  (hK: ∀a w,Dt E0 w0 K a w→qC P C.cl .any ops Q fuel (listed.setIfInBounds i true) a w)(h:bq E0 E w0 w s a)(hk:I8 C ops.toList oi s K):qC P C.cl .any ops Q (fuel+1) listed a w:=by
 unfold Jm at ht;rw[hi]at ht;dsimp only at ht;simp only[Bool.and_eq_true,List.contains_iff_mem,List.all_eq_true,List.mem_range]at ht;obtain⟨⟨⟨hr,htk⟩,hM⟩,aog⟩:=ht;have hm:CZ oi.op=true:=by
  unfold adl at htk
  split at htk
  ·cases htk
  ·exact htk
 have Ty: ∀t ps,oi.op≠ .build t ps:=fun t ps e=>by rw[e]at htk;cases htk
 obtain⟨v,hy,hA⟩:=EK ok h hm hk;generalize hMd:ahead ops listed i ops.size []=M at*;have hrf: ∀w,Y7 oi.op w w:=fun w=>by unfold Y7;split;exact cf.refl w;rfl;trivial
 refine I7 (R:=Y7 oi.op) ?_ hrf hi (Region.noSelect_spec hs) (fun c a w hq=>absurd hq (hQ _ _ _)) (fun j=>j∈M) ?_ fuel listed a w ?_ hr hy (hK _ _ hA)
 ·intro a b c h1 h2;generalize oi.op=x at h1 h2 ⊢;cases x<;>first|trivial|exact cf.trans h1 h2|exact(show c=b from h2).trans (show b=a from h1)
 ·intro j oj hj ct hjM;have h1:=hM j hjM
  rw[hj]at h1;simp only[Bool.and_eq_true,Bool.or_eq_true,Bool.not_eq_true']at h1;refine⟨h1.1,?_⟩;by_cases hl:O6 oi.op=true
  ·right;refine⟨h1.2.resolve_left (by rw[hl];simp),fun w w' hA=>?_⟩;unfold O6 at hl;unfold Y7
   split at hl
   ·rename_i heq;rw[heq];exact hA
   ·cases hl
  ·left;intro w w';unfold Y7
   split
   ·rename_i heq;rw[heq]at hl;exact absurd rfl hl
   ·rename_i heq;exact absurd heq (Ty _ _)
   ·trivial
 ·intro l j wT hl ct hj;obtain⟨SN,oj,hoj,jN⟩:=mem_ready.1 hj;have aV:j<ops.size:=(Array.getElem?_eq_some_iff.1 hoj).1
  have h1:=aog j aV
  simp only[Bool.or_eq_true]at h1;rcases h1 with((h1|h1)|h1)|h1
  ·exact absurd (cY h1) ct
  ·exact J9.1 h1
  ·have h2:=wT j h1
   rw[Array.getD_eq_getD_getElem?]at h2 SN;cases hh:l[j]? with
   |none=>rw[hh]at h2;simp at h2
   |some b=>rw[hh]at h2 SN;simp at h2 SN;rw[h2]at SN;cases SN
  ·rw[hoj]at h1;obtain⟨e,he,h2⟩:=Array.any_eq_true'.1 h1;simp only[Bool.and_eq_true,Bool.not_eq_true']at h2;obtain⟨⟨h3,h4⟩,h5⟩:=h2;have h6:=jN e he h3
   rcases hl e.on h6 with h7|h7
   ·rw[h7]at h4;cases h4
   ·rw[J9.2 h7]at h5;cases h5
theorem uk(ok:Ok P C){ops:Array Oper}{Q:Exit→Act→World→Prop}{K:St→Prop}(hs:Region.noSelect ops=true)(hQ: ∀c a w,¬Q (.panic c) a w)(hN: ∀a w,Dt E0 w0 K a w→Q .normal a w):
  ∀(t:Tree) (fuel:Nat) (listed:Array Bool) (DE:Option (List Nat)) {s:St} {E:Env} {a:Act} {w:World},Cs C.cl ops t fuel listed DE=true→bq E0 E w0 w s a→EI C ops.toList t s K→
   match DE with
   |none=>qC P C.cl .any ops Q fuel listed a w
   |some rs=> ∃f,fuel=f+1∧ ∀i∈rs,kP P C.cl ops Q i (qC P C.cl .any ops Q f (listed.setIfInBounds i true)) a w
 | .done,fuel,listed,DE,s,E,a,w,hc,h,hk=>by
  cases DE with
  |some rs=>simp[Cs]at hc
  |none=>
   simp only[Cs,List.isEmpty_iff]at hc;have:Q .normal a w:=hN a w ⟨s,E,hk,h⟩
   cases fuel with
   |zero=>exact⟨hc,this⟩
   |succ f=>exact⟨fun _=>this,by rw[hc];simp⟩
 | .one i t,fuel,listed,DE,s,E,a,w,hc,h,hk=>by
  cases fuel with
  |zero=>cases DE<;>simp[Cs]at hc
  |succ f=>
   cases DE with
   |some rs=>simp[Cs]at hc
   |none=>
    simp only[Cs,Bool.and_eq_true]at hc;unfold EI at hk;cases hi:ops.toList[i]? with
    |none=>rw[hi]at hk;exact hk.elim
    |some oi=>
     rw[hi]at hk;exact NM ok hs hQ (by rw[←Array.getElem?_toList];exact hi) hc.1 (fun a w ⟨s',E',kh,h'⟩=>uk ok hs hQ hN t f _ none hc.2 h' kh) h hk
 | .aj i t u,fuel,listed,DE,s,E,a,w,hc,h,hk=>by
  cases fuel with
  |zero=>cases DE<;>simp[Cs]at hc
  |succ f=>
   have key: ∀(r:Nat) (rs:List Nat),(bQ r i&&Cs C.cl ops t f (listed.setIfInBounds i true) none&&Cs C.cl ops u (f+1) listed (some rs))=true→
     ∀j∈r::rs,kP P C.cl ops Q j (qC P C.cl .any ops Q f (listed.setIfInBounds j true)) a w:=by
    intro r rs hc j hj;simp only[Bool.and_eq_true]at hc;have YS:r=i:=cY hc.1.1
    subst YS;unfold EI at hk;rcases List.mem_cons.1 hj with rfl|hj
    ·have hk1:=hk.1
     cases hi:ops.toList[j]? with
     |none=>rw[hi]at hk1;exact hk1.elim
     |some oi=>
      rw[hi]at hk1;exact yX (fun a w ⟨s',E',kh,h'⟩=>uk ok hs hQ hN t f _ none hc.1.2 h' kh) (K8 ok (by rw[←Array.getElem?_toList];exact hi) h hk1)
    ·obtain⟨f',hf,h2⟩:=uk ok hs hQ hN u (f+1) listed (some rs) hc.2 h hk.2;cases hf;exact h2 j hj
   cases DE with
   |none=>
    simp only[Cs]at hc
    split at hc
    ·rename_i r rs hr;refine⟨fun h0=>by simp[hr]at h0,?_⟩;rw[hr];exact key r rs hc
    ·cases hc
   |some rs=>
    cases rs with
    |nil=>simp[Cs]at hc
    |cons r rs=>simp only[Cs]at hc;exact⟨f,rfl,key r rs hc⟩
 | .nil,fuel,listed,DE,s,E,a,w,hc,h,hk=>by
  cases DE with
  |none=>simp[Cs]at hc
  |some rs=>
   cases fuel with
   |zero=>cases rs<;>simp[Cs]at hc
   |succ f=>
    cases rs with
    |nil=>exact⟨f,rfl,fun i hi=>by cases hi⟩
    |cons r rs=>simp[Cs]at hc
end Ab
namespace Ab
open Go
variable{P:Program}{L:nK}{E0 E E':Env}{w0 w w':World}{s s':St}{a a':Act}{p:Path}{C:dx}
theorem MR(h:bq E0 E w0 w s a): ∀d x,look d s.clean.t=some x→Cz E x (a.tmps.getD d undef):=fun d x hd=>h.clean.tm d x hd trivial
theorem Dfs.tail{n0:Nat}{l l':List Deferred}(h:Dfs n0 E (l++l')):Dfs n0 E l':=by
 obtain⟨Bs,h1,h2,h3⟩:=h;obtain⟨Bs1,Bs2,e1,e2,e3⟩:=List.append_eq_map_iff.1 h1;subst e1;exact⟨Bs2,e3.symm,(List.nodup_append.1 h2).2.1,fun B hB=>h3 B (by simp[hB])⟩
theorem bq.push(h:bq E0 E w0 w s a){n:Nat}{t:List (Nat×AV)}{A:Array Value}(hn:A.size=n)(ht: ∀d x,look d t=some x→Cz E x (A.getD d undef)):
  bq {E0 with up:=a::E0.up} E w0 w {s with n:=n,t:=t,c:=[],up:={n:=s.n,t:=s.clean.t}::s.up} {tmps:=A,defers:=[]}:=
 ⟨h.heap,h.wf,h.Kp,⟨⟨h.sz,MR h⟩,h.up⟩,hn,fun d x hd _=>ht d x hd,fun d q hd=>by simp[look]at hd,h.bx,h.lv,h.gx,h.gl,⟨h.ext.size,h.ext.aI,h.ext.live,h.ext.bw⟩,h.wI,h.same,h.gk,h.nl,h.ng,h.lo⟩
theorem bq.pop{f:Fr}{u:List Fr}(h:bq {E0 with up:=a::E0.up} E w0 w s a')(hu:s.up=f::u):bq E0 E w0 w {s with n:=f.n,t:=f.t,c:=[],up:=u} a:=by
 have hup:=h.up
 rw[hu]at hup;exact⟨h.heap,h.wf,by have:=h.Kp;simp only[PJ,List.map_cons,List.flatten_cons]at this;exact this.tail,hup.2,hup.1.1,fun d x hd _=>hup.1.2 d x hd,fun d q hd=>by simp[look]at hd,h.bx,h.lv,h.gx,h.gl,
  ⟨h.ext.size,h.ext.aI,h.ext.live,h.ext.bw⟩,h.wI,h.same,h.gk,h.nl,h.ng,h.lo⟩
theorem E8{b:List (Nat×Ob)}{f:Nat→Prop}(hf: ∀d ob,look d b=some ob→f d){t:List (Nat×AV)}(iQ:V9 b t=true){T:Array Value}(h: ∀d x,look d t=some x→Cz E x (T.getD d undef)):
  ∀d x,look d t=some x→Cz (E.only f) x (T.getD d undef):=fun d x hd=>Cz.only hf (h d x hd) (Aw iQ d x hd)
theorem jP.only{b:List (Nat×Ob)}{f:Nat→Prop}(hf: ∀d ob,look d b=some ob→f d): ∀{aa:List Act} {fs:List Fr},okU b fs=true→jP E aa fs→jP (E.only f) aa fs
 |[],[],_,_=>trivial
 |a::aa,g::fs,iQ,h=>by
  simp only[okU,Bool.and_eq_true]at iQ;exact⟨⟨h.1.1,E8 hf iQ.1 h.1.2⟩,jP.only hf iQ.2 h.2⟩
 |[],_::_,_,h=>h.elim
 |_::_,[],_,h=>h.elim
theorem bq.drop(h:bq E0 E w0 w s a)(hc:s.c=[]){b':List (Nat×Ob)}(hb: ∀d ob,look d b'=some ob→look d s.b=some ob)(iQ:Sd {s with b:=b'}=true):
  ∃f:Nat→Prop,(∀d ob,look d b'=some ob→f d)∧bq E0 (E.only f) w0 w {s with b:=b'} a:=by
 simp only[Sd,Bool.and_eq_true]at iQ;obtain⟨aiv,abj,aiu⟩:=iQ;let f:Nat→Prop:=fun d=> ∃ob,look d b'=some ob;have hf: ∀d ob,look d b'=some ob→f d:=fun d ob hd=>⟨ob,hd⟩
 have k:=JU E f
 refine⟨f,hf,⟨h.heap,⟨h.wf.aI,h.wf.own,h.wf.fz⟩,h.Kp,jP.only hf aiu h.up,h.sz,fun d x hd _=>?_,fun d q hd=>?_,fun d ob hd=>?_,fun d hl=>hl.2,fun i ob hi=>k.ob (h.gk i ob hi) (h.gx i ob hi),h.gl,?_,h.wI,h.same,h.gk,h.nl,h.ng,h.lo⟩⟩
 ·exact Cz.only hf (h.tm d x hd (by unfold eP;show bc s (match look d s.c with|some q=>q|none=>[]);rw[hc];trivial)) (Aw aiv d x hd)
 ·have nN:look d s.c=some q:=hd
  rw[hc]at nN;simp[look]at nN
 ·have h3:=h.bx d ob (hb d ob hd)
  cases ob with
  |box cs=>
   obtain⟨hl,c,e,dM,ho,hs,dg,hq⟩:=h3;exact⟨⟨hl,hf d _ hd⟩,c,e,dM,ho,hs,dg,fun q av x ha hx=>Cz.only hf (hq q av x ha hx) (qt (xI abj d _ hd) q av ha)⟩
  |arr z xs=>
   obtain⟨hl,nQ,dw,hz,hm,c,e,dM,ho,hs,dg,hi,hq⟩:=h3;exact⟨⟨hl,hf d _ hd⟩,nQ,dw,hz,hm,c,e,dM,ho,hs,dg,hi,fun q av x ha hx=>k.bX (hq q av x ha hx) (hi q av ha)⟩
  |ow p l xs=>exact xH (E:=E) (E':=E.only f) (fun i hi=>⟨by cases d<;>exact hi,rfl,rfl⟩) (fun hl=>⟨hl,hf d _ hd⟩) rfl rfl (fun ho=>⟨ho,rfl,fun o hh=>hh⟩) (fun a x hi hc=>k.bX hc hi) (fun b hb _=>⟨hb,rfl,fun _=>Iff.rfl,rfl⟩) h3
  |lp n t ps nX body st=>
   obtain⟨hl,ho,hs,rec,dM,h4,h5,h6,h7,h8,h9,hq⟩:=h3;exact⟨⟨hl,hf d _ hd⟩,ho,hs,rec,dM,h4,h5,h6,h7,h8,h9,E8 hf (BU abj hd) hq⟩
 ·exact⟨h.ext.size,h.ext.aI,fun q hq=>by
   cases q with
   |s d=>exact absurd hq (h.nl (.s d) rfl)
   |r d j=>exact absurd hq (h.nl (.r d j) rfl)
   |o i=>exact h.ext.live (.o i) hq,h.ext.bw⟩
theorem zp{b0:List (Nat×Ob)}{l:List Nat}{d:Nat}: ∀{b:List (Nat×Ob)},look d (yH b0 l b)=if aik b0 l d then look d b else none
 |[]=>by simp[yH,look]
 |(k,o)::r=>by
  simp only[yH];cases hb:aik b0 l k with
  |true=>
   rw[aE,aC,aC,zp];by_cases hk:k=d
   ·subst hk;rw[if_pos rfl,if_pos rfl,hb];rfl
   ·rw[if_neg hk,if_neg hk]
  |false=>
   rw[aM,aC,zp];by_cases hk:k=d
   ·subst hk;rw[hb];rfl
   ·rw[if_neg hk]
theorem Ig{b0:List (Nat×Ob)}{l:List Nat}{d:Nat}{ob:Ob}{b:List (Nat×Ob)}(h:look d (yH b0 l b)=some ob):look d b=some ob:=by
 rw[zp]at h
 split at h
 ·exact h
 ·cases h
theorem bq.tl(h:bq E0 E w0 w s a){d:Nat}(hd:look d s.b=none){ob:Ob}{o:Obj}(qf:bM (E.addKey (.s d) o) (.s d) ob):
  bq E0 (E.addKey (.s d) o) w0 (w.alloc o) {s with b:=cT d ob s.b} a:=by
 have xR: ¬E.live (.s d):=fun hl=>by obtain⟨ob,ho⟩:=h.lv d hl;rw[hd]at ho;cases ho
 have hE:=ot h.wf xR o
 have hs:=h.xZ (T:=fun _=>false) hE (fun _ hf=>hf.elim) qT (IM h.wf _ _) (w':=w.alloc o) (by show w.heap.push _=_;rw[h.heap];rfl) (uq _ _) (fun _ _ hf=>hf.elim)
  (cT d ob s.b) s.g s.nx (fun d' DF h'=>by
   rw[aF]at h';by_cases rF:d=d'
   ·rw[if_pos rF]at h';cases h';subst rF;exact .inr qf
   ·rw[if_neg rF]at h';exact .inl ⟨DF,h',(oI (fun _=>rfl) DF).symm,(fun hf=>hf),fun hf=>hf⟩)
  (fun d' hl=>by
   rw[aF];by_cases rF:d=d'
   ·exact⟨ob,by rw[if_pos rF]⟩
   ·rw[if_neg rF];rcases hl with hl|hl
    ·exact absurd (by injection hl with hl;exact hl.symm) rF
    ·exact h.lv d' hl)
  (fun i DF h'=> .inl ⟨h',fun hf=>hf⟩)
  (fun i=>by
   constructor
   ·rintro(hl|hl)
    ·cases hl
    ·exact(h.gl i).1 hl
   ·exact fun hl=> .inr ((h.gl i).2 hl)) h.gk (fun b=>IN h.ng d b)
 have:fY (fun _=>false) s.t=s.t:=lX (fun _=>rfl) _
 rw[this,qj (fun _=>rfl)]at hs;exact hs
def Env.fL(E:Env)(o:Obj):Env:={E with h:=E.h.push o,own:=fun b=>if b=E.h.size then .kM else E.own b}
theorem GL(hw:Wf E)(o:Obj):Ext (fun _=>False) E (E.fL o):=
 ⟨by simp[Env.fL],
  fun b i hb=>⟨hb,by have:=hw.aI b i hb;exact zI E.h o this i,rfl⟩,
  fun q hq=>⟨hq,rfl,rfl⟩,
  fun b hb _=>⟨by simp only[Env.fL];rw[if_neg (by omega)],by simp only[Env.fL];rw[Array.getElem?_push,if_neg (by omega)],fun _=>Iff.rfl,rfl⟩⟩
theorem Ta(hw:Wf E)(o:Obj):Wf (E.fL o):=
 ⟨fun b i hs=>by have:=hw.aI b i hs;simp[Env.fL];omega,fun b hb=>by
  simp only[Env.fL]at hb;by_cases h:b=E.h.size
  ·simp[Env.fL,h]
  ·rw[if_neg h]at hb;have:=hw.own b hb;simp[Env.fL];omega,
  fun b i hs hr=>by
  obtain⟨c,e,h⟩:=hw.fz b i hs hr;have:=hw.aI b i hs
  exact⟨c,e,by simp only[Env.fL];rw[Array.getElem?_push,if_neg (by omega)];exact h⟩⟩
theorem bq.mark(h:bq E0 E w0 w s a):bq E0 (E.fL (.deferred (some []))) w0 (w.alloc (.deferred (some []))) s {a with defers:={target:= .collected w.heap.size,args:= #[]}::a.defers}:=by
 have hE:=GL h.wf (.deferred (some []))
 have hs:=h.xZ (T:=fun _=>false) hE (fun _ hf=>hf.elim) qT (Ta h.wf _) (w':=w.alloc (.deferred (some []))) (by show w.heap.push _=_;rw[h.heap];rfl) (uq _ _) (fun _ _ hf=>hf.elim)
  s.b s.g s.nx (fun d' DF h'=> .inl ⟨DF,h',(oI (fun _=>rfl) DF).symm,(fun hf=>hf),fun hf=>hf⟩) (fun d' hl=>h.lv d' hl)
  (fun i DF h'=> .inl ⟨h',fun hf=>hf⟩) h.gl h.gk (fun b=>by
   have:=h.ng b
   simp only[Env.fL]
   split
   ·simp[du,Own.du]
   ·exact this)
 have:fY (fun _=>false) s.t=s.t:=lX (fun _=>rfl) _
 rw[this,qj (fun _=>rfl)]at hs;obtain⟨Bs,q1,q2,q3⟩:=h.Kp;refine⟨hs.heap,hs.wf,⟨w.heap.size::Bs,?_,?_,?_⟩,hs.up,hs.sz,hs.tm,hs.cu,hs.bx,hs.lv,hs.gx,hs.gl,hs.ext,hs.wI,hs.same,hs.gk,hs.nl,hs.ng,hs.lo⟩
 ·simp only[PJ,List.cons_append,List.map_cons];rw[←q1];rfl
 ·refine List.nodup_cons.2 ⟨fun hB=>?_,q2⟩;have:=(Array.getElem?_eq_some_iff.1 (q3 _ hB).1).1
  rw[h.heap]at this;omega
 ·intro B hB;rcases List.mem_cons.1 hB with rfl|hB
  ·rw[h.heap];exact⟨by simp[Env.fL],by simp[Env.fL],h.ext.size⟩
  ·obtain⟨q4,q5,q6⟩:=q3 B hB;have aV:=(Array.getElem?_eq_some_iff.1 q4).1
   exact⟨by simp only[Env.fL];rw[Array.getElem?_push,if_neg (by omega)];exact q4,by simp only[Env.fL];rw[if_neg (by omega)];exact q5,q6⟩
def Env.od(E:Env)(b:Nat)(o:Obj):Env:={E with h:=E.h.setIfInBounds b o}
theorem bq.take(h:bq E0 E w0 w s a){d:Deferred}{ds:List Deferred}(hd:a.defers=d::ds):
  ∃B,d.target= .collected B∧w.heap[B]? =some (.deferred (some []))∧bq E0 (E.od B (.deferred none)) w0 (w.putObj B (.deferred none)) s {a with defers:=ds}:=by
 obtain⟨Bs,q1,q2,q3⟩:=h.Kp;have q1':=q1
 simp only[PJ,hd,List.cons_append]at q1;cases Bs with
 |nil=>simp at q1
 |cons B Bs=>
  simp only[List.map_cons,List.cons.injEq]at q1;obtain⟨e1,e2⟩:=q1;obtain⟨q4,q5,q6⟩:=q3 B (by simp);have aV:=(Array.getElem?_eq_some_iff.1 q4).1
  have tJ: ∀b i,aO (E.od B (.deferred none)).h b i=aO E.h b i:=fun b i=>by
   simp only[Env.od,aO];by_cases hbB:b=B
   ·subst hbB;rw[q4,Array.getElem?_setIfInBounds_self];simp[aV]
   ·rw[Array.getElem?_setIfInBounds_ne (Ne.symm hbB)]
  have yd: ∀b,b≠B→(E.od B (.deferred none)).h[b]? =E.h[b]? :=fun b hb=>by
   simp only[Env.od];rw[Array.getElem?_setIfInBounds_ne (Ne.symm hb)]
  have hE:Ext (fun o=>o= .kM) E (E.od B (.deferred none)):=by
   refine⟨by simp[Env.od],fun b i hb=>⟨hb,tJ b i,rfl⟩,fun q hq=>⟨hq,rfl,rfl⟩,fun b hb hn=>⟨rfl,?_,fun _=>Iff.rfl,rfl⟩⟩;exact yd b fun e=>by subst e;exact hn q5
  have hT: ∀t,(fun o=>o=Own.kM) (.tok t)→(fun _:Tok=>false) t=true:=fun t ht=>by cases ht
  have cz: ∀{av:AV} {x:Value},Cz E av x→Cz (E.od B (.deferred none)) av x:=fun{av x} hx=>by
   have:=(hx.ext hE h.wf (fun _=>false) hT).1
   rwa [lb (fun _=>rfl)]at this
  have ob: ∀{k:Key} {o:Ob},bM E k o→bM (E.od B (.deferred none)) k o:=fun{k o} ho=>by
   have:=bM.move hE h.wf (fun _=>false) hT (by intro hf;cases hf) (by intro _ hf;cases hf) ho
   rwa [oI (fun _=>rfl)]at this
  refine⟨B,by rw[e1],by rw[h.heap];exact q4,?_⟩;refine⟨by simp[World.putObj,Env.od,h.heap],⟨fun b o hs=>by have:=h.wf.aI b o hs;simpa[Env.od]using this,fun b hb=>by have:=h.wf.own b hb;simpa[Env.od]using this,fun b o hs hr=>by
   obtain⟨c,e,hc⟩:=h.wf.fz b o hs hr;have:b≠B:=fun e=>by subst e;rw[q4]at hc;cases hc
   exact⟨c,e,(yd b this).trans hc⟩⟩,⟨Bs,?_,(List.nodup_cons.1 q2).2,fun B' hB'=>?_⟩,?_,h.sz,
   fun d x hd hp=>cz (h.tm d x hd hp),h.cu,fun d o hd=>ob (h.bx d o hd),h.lv,fun i o hi=>ob (h.gx i o hi),h.gl,⟨by simp only[Env.od];simpa using h.ext.size,fun b o hs=>?_,h.ext.live,fun b hb hn=>?_⟩,h.wI,?_,h.gk,h.nl,h.ng,h.lo⟩
  ·exact e2
  ·obtain⟨q7,q8,q9⟩:=q3 B' (by simp[hB']);have:B'≠B:=fun e=>by subst e;exact(List.nodup_cons.1 q2).1 hB'
   exact⟨(yd B' this).trans q7,q8,q9⟩
  ·have:=jP.move hE h.wf (fun _=>false) hT h.up
   rwa [qj (fun _=>rfl)]at this
  ·obtain⟨k1,k2,k3⟩:=h.ext.aI b o hs;exact⟨k1,(tJ b o).trans k2,k3⟩
  ·obtain⟨k1,k2,k3,k4⟩:=h.ext.bw b hb hn;exact⟨k1,(yd b (by omega)).trans k2,k3,k4⟩
  ·exact⟨h.same.1,h.same.2.1,h.same.2.2⟩
end Ab
namespace Ab
open Go
variable{P:Program}{F:Fence}{n:Nat}{Q:Exit→Act→World→Prop}{a:Act}{w:World}
theorem mi{b:Frame}{k:List Item}{cs:List Frame}{c:Code}:step P (lone (b.atR a (.code (.scope c)::k)) cs w)= .next (lone (b.atR a (.code c:: .inScope c::k)) cs w):=
 step_lone_go (by simp[stepG,stepG.exec,Frame.atR])
theorem G9{b:Frame}{k:List Item}{cs:List Frame}{c:Code}:step P (lone (b.atR a (.inScope c::k)) cs w)= .next (lone (b.atR a k) cs w):=
 step_lone_go (by simp[stepG,stepG.exec,Frame.atR])
theorem NB{c:Code}(h:c.wpIn F n P (Exit.noGoto Q) a w):(Code.scope c).wpIn F n P Q a w:=by
 intro b k cs F0 hb hr;have h0:(lone (b.atR a (.code (.scope c)::k)) cs w).fenced P F:=fenced_calm hb hr rfl
 obtain⟨e,a₁,w₁,hq,MD⟩:=h b (.inScope c::k) cs F0 hb hr;cases e with
 |normal=>exact⟨.normal,a₁,w₁,hq,.head h0 mi (StepsIn.trans MD (.one (fenced_calm hb hr rfl) G9))⟩
 |exit id=>
  have hx:exitTo id (.inScope c::k)=exitTo id k:=by simp[exitTo]
  exact⟨.exit id,a₁,w₁,hq,fun k' hk=> .head h0 mi (MD.1 k' (by rw[hx];exact hk)),
   fun Bt hk=>let⟨k₁,h1,h2⟩:=MD.2 Bt (by rw[hx];exact hk);⟨k₁,h1,.head h0 mi h2⟩⟩
 |goto l=>exact hq.elim
 |ret=>exact⟨_,a₁,w₁,hq,.of_steps (.one h0 mi) MD⟩
 |panic ch=>exact⟨_,a₁,w₁,hq,.of_steps (.one h0 mi) MD⟩
 |outgrown=>exact⟨_,a₁,w₁,hq,.of_steps (.one h0 mi) MD⟩
end Ab
namespace Ab
open Go
variable{P:Program}{L:nK}{E0 E E':Env}{w0 w w':World}{s s':St}{a:Act}{p:Path}{C:dx}
def vM:Code→Bool
 | .seq a b=>vM a&&vM b
 | .cond _ a b=>vM a&&vM b
 | .block _ a=>vM a
 | .loop a=>vM a
 | .rangeFunc .. =>false
 | .scope a=>vM a
 |_=>true
def cB(cl:Nat→Bool)(T:Nat→Tree):Code→Bool
 | .region id ops true=>Region.noSelect ops&&Cs cl ops (T id) ops.size (Array.replicate ops.size false) none
 | .seq a b=>cB cl T a&&cB cl T b
 | .cond _ a b=>cB cl T a&&cB cl T b
 | .block _ a=>cB cl T a
 | .loop a=>cB cl T a
 | .scope a=>cB cl T a
 | .rangeFunc _ _ a b=>(vM a&&vM b)&&(cB cl T a&&cB cl T b)
 |_=>true
def Dr(E0:Env)(w0:World)(Q:Ex→St→Prop):Exit→Act→World→Prop
 | .normal,a,w=> ∃s E,Q .normal s∧bq E0 E w0 w s a
 | .exit k,a,w=> ∃s E,Q (.exit k) s∧bq E0 E w0 w s a
 | .ret,a,w=> ∃s E,Q .ret s∧bq E0 E w0 w s a
 |_,_,_=>False
theorem Dr.mono{Q Q':Ex→St→Prop}(hq: ∀e s,Q e s→Q' e s){e:Exit}{a:Act}{w:World}(h:Dr E0 w0 Q e a w):Dr E0 w0 Q' e a w:=by
 cases e<;>first|exact h.elim|(obtain⟨s,E,h1,h2⟩:=h;exact⟨s,E,hq _ _ h1,h2⟩)
theorem bq.drew(h:bq E0 E w0 w s a)(n:Nat):bq E0 E w0 {w with drawn:=n} s a:=
 ⟨h.heap,h.wf,h.Kp,h.up,h.sz,h.tm,h.cu,h.bx,h.lv,h.gx,h.gl,h.ext,h.wI,⟨h.same.1,h.same.2.1,h.same.2.2⟩,h.gk,h.nl,h.ng,h.lo⟩
theorem vx{F:Fence}{n:Nat}{Q:Exit→Act→World→Prop}{c:Code}(I:Nat→Act→World→Prop)(n₀:Nat)(h₀:I n₀ a w)
  (round: ∀k a w,I k a w→c.wpIn F n P (Exit.then (fun a' w'=> ∃n',n'<k∧I n' a' w') Q) a w):(Code.loop c).wpIn F n P Q a w:=by
 refine wpIn_loop (fun a w=> ∃n,I n a w) (fun a w=>leastOf (fun n=>I n a w)) ⟨n₀,h₀⟩ ?_;intro a w hI;refine wpIn_mono (round _ a w (leastOf_spec hI).1) ?_;intro e a' w' hq;cases e with
 |normal=>
  obtain⟨n',aV,hI'⟩:=hq;exact show(∃n,I n a' w')∧leastOf (fun n=>I n a' w')<leastOf (fun n=>I n a w)from⟨⟨n',hI'⟩,Nat.lt_of_le_of_lt ((leastOf_spec ⟨n',hI'⟩).2 n' hI') aV⟩
 |exit id=>exact hq
 |goto l=>exact hq
 |ret=>exact hq
 |panic ch=>exact hq
 |outgrown=>exact hq
def M0(P:Program)(c:Code)(W:St→(Ex→St→Prop)→Prop)(ro:Option Nat):Prop:=
 ∀{E0:Env} {w0:World} {Q:Ex→St→Prop} {s:St} {E:Env} {a:Act} {w:World},bq E0 E w0 w s a→W s Q→c.wpIn (WF ro) 0 P (Dr E0 w0 Q) a w
theorem H4{α β:Type}: ∀{l:List α} {m:List β},FR l m=true→l.length=m.length
 |[],[],_=>rfl
 |_::r,_::q,h=>by simp[H4 (l:=r) (m:=q) (by simpa[FR]using h)]
 |[],_::_,h=>by simp[FR]at h
 |_::_,[],h=>by simp[FR]at h
theorem HT{n:Nat}: ∀{ps:List Nat} {aa:List AV} {vs:List Value} {t:List (Nat×AV)} {A:Array Value},A.size=n→MY n ps=true→aa.length=ps.length→vs.length=ps.length→
  (∀(q:Nat) (b:AV) (y:Value),aa[q]? =some b→vs[q]? =some y→Cz E b y)→(∀d x,look d t=some x→Cz E x (A.getD d undef))→
  (((ps.zip vs).foldl (fun t (q:Nat×Value)=>t.setIfInBounds q.1 q.2) A).size=n∧ ∀d x,look d (OI ps aa t)=some x→Cz E x (((ps.zip vs).foldl (fun t (q:Nat×Value)=>t.setIfInBounds q.1 q.2) A).getD d undef))
 |[],aa,vs,t,A,hn,_,_,_,_,ht=>⟨hn,by cases aa<;>exact ht⟩
 |p::ps,[],vs,t,A,_,_,h,_,_,_=>by simp at h
 |p::ps,b::aa,[],t,A,_,_,_,h,_,_=>by simp at h
 |p::ps,b::aa,y::vs,t,A,hn,hp,h1,h2,hv,ht=>by
  simp only[MY,Bool.and_eq_true]at hp;have hpn:p<n:=by simpa using hp.1
  refine HT (ps:=ps) (aa:=aa) (vs:=vs) (t:=cT p b t) (A:=A.setIfInBounds p y) (by simpa using hn) hp.2 (by simpa using h1) (by simpa using h2) (fun q b' y' hb hy=>hv (q+1) b' y' (by simpa using hb) (by simpa using hy)) fun d x hd=>?_;rw[aF]at hd;by_cases hpd:p=d
  ·subst hpd;rw[if_pos rfl]at hd;cases hd;rw[Array.getD_eq_getD_getElem?,Array.getElem?_setIfInBounds_self];simp only[hn,hpn,if_true,Option.getD_some];exact hv 0 b y rfl rfl
  ·rw[if_neg hpd]at hd;rw[Array.getD_eq_getD_getElem?,Array.getElem?_setIfInBounds_ne hpd,←Array.getD_eq_getD_getElem?];exact ht d x hd
theorem Up(w:World)(b:Nat)(o:Obj):jk w (w.putObj b o):=⟨rfl,rfl,rfl⟩
theorem bq.VU(h:bq E0 E w0 w s a){kd:Nat}{n:Nat×Nat}{t:List (Nat×AV)}{ps:List Nat}{nX body:Unit→Code}{st:LS}(hk:look kd s.b=some (.lp n t ps nX body st)){rec:Loop}(hr:w.heap[E.m (.s kd)]? =some (.loop rec)){st':LS}{ls:LoopState}{pe:Option Code}(er:akq st' ls pe):
  bq E0 (E.write (.s kd) (.loop {rec with state:=ls,pending:=pe})) w0 (w.putObj (E.m (.s kd)) (.loop {rec with state:=ls,pending:=pe})) {s with b:=cT kd (.lp n t ps nX body st') s.b} a:=by
 obtain⟨hl,ho,hs,afT,dM,h4,h5,h6,h7,h8,h9,hq⟩:=h.bx kd _ hk;rw[h.heap]at hr;have:afT=rec:=by rw[dM]at hr;cases hr;rfl
 subst this;have hE:=jl ho hs (.loop {afT with state:=ls,pending:=pe})
 have aV:E.m (.s kd)<E.h.size:=(Array.getElem?_eq_some_iff.1 dM).1
 refine h.pB hk ⟨hl,ho,hs,{afT with state:=ls,pending:=pe},by simp[Env.write,aV],h4,h5,h6,h7,er,h9,?_⟩ rfl (Up _ _ _) ho hs;have:=xF hE h.wf (fun _=>false) (fX _) hq
 rwa [lX (fun _=>rfl)]at this
theorem Rh(ps:Array Tmp)(vs:List Value)(A:Array Value):
  (ps.zip vs.toArray).foldl (fun t (q:Tmp×Value)=>t.setIfInBounds q.1 q.2) A=(ps.toList.zip vs).foldl (fun t (q:Nat×Value)=>t.setIfInBounds q.1 q.2) A:=by
 rw[←Array.foldl_toList,Array.toList_zip]
theorem KW{kd:Nat}{ps:List Nat}{nX body:Code}{Wa Wb:St→(Ex→St→Prop)→Prop}(ha: ∀l,M0 P nX Wa (some l))(hb: ∀l,M0 P body Wb (some l)){args:List AV}{K:bd}{vs:List Value}
  (hk:I6 kd ps (fun _=>nX) (fun _=>body) Wa Wb args s K)(h:bq E0 E w0 w s a)(hlen:vs.length=args.length)(hv: ∀(q:Nat) (b:AV) (y:Value),args[q]? =some b→vs[q]? =some y→Cz E b y):
  YieldAt Fence.wide 0 P (E.m (.s kd)) vs.toArray w fun e w'=> ∃x,e= .returned x∧ ∃r s' E',K r s'∧bq E0 E' w0 w' s' a∧Cz E' r x:=by
 unfold I6 at hk
 split at hk
 ·rename_i n t YG Yg MV eu;obtain⟨⟨rfl,rfl,rfl⟩,hk⟩:=hk;cases tK:FR YG args&&MY n.2 YG&&cr args with
  |false=>rw[tK]at hk;exact hk.elim
  |true=>
   rw[tK,aE]at hk;simp only[Bool.and_eq_true]at tK;obtain⟨⟨QI,GX⟩,_⟩:=tK;have QI:=H4 QI
   obtain⟨F5,ho,hs,rec,dM,h4,h5,h6,h7,h8,h9,hq⟩:=h.bx kd _ eu;have atF:w.heap[E.m (.s kd)]? =some (.loop rec):=by rw[h.heap];exact dM
   have hy:=run_yield (P:=P) (args:=vs.toArray) atF (by rw[←Array.length_toList (xs:=rec.params),h5];simp[hlen,QI])
   obtain⟨hA1,hA2⟩:=HT (E:=E) (ps:=YG) (aa:=args) (vs:=vs) (t:=t) (A:=rec.tmps) h4 GX QI.symm (by rw[hlen,QI]) hv hq;refine⟨rec.fn,_,rec.assign,rec.body,hy,roundIn_of_wpIn (F:=Fence.wide) trivial ?_⟩;rw[h6,h7];have Xi:(rec.params.zip vs.toArray).foldl (fun tmps (x:Tmp×Value)=>tmps.setIfInBounds x.1 x.2) rec.tmps=(YG.zip vs).foldl (fun t (q:Nat×Value)=>t.setIfInBounds q.1 q.2) rec.tmps:=by
    rw[Rh,h5]
   have aiP:(rec.params.zip vs.toArray).foldl (fun tmps x=>match x with|(t,a)=>tmps.setIfInBounds t a) rec.tmps=(YG.zip vs).foldl (fun t (q:Nat×Value)=>t.setIfInBounds q.1 q.2) rec.tmps:=Xi
   rw[aiP];have h3:=h.push hA1 hA2
   refine wpIn_mono (ha (E.m (.s kd)) h3 hk) fun e a1 w1 hp=>?_;cases e with
   |normal=>
    obtain⟨s4,E4,Y1,h4'⟩:=hp;dsimp only at Y1
    split at Y1
    ·rename_i n4 t4 ps4 asg4 body4 an1;obtain⟨hlive4,ho4,hs4,afS,hb4,g4,g5,g6,g7,g8,g9,gq⟩:=h4'.bx kd _ an1;have adT:w1.heap[E4.m (.s kd)]? =some (.loop afS):=by rw[h4'.heap];exact hb4
     obtain⟨e4,Y1⟩:=Y1;have hm4:E4.m (.s kd)=E.m (.s kd):=by rw[g9,e4,h9]
     have atw:afS.state= .ready:=g8.1
     refine⟨_,run_beginRound (P:=P) (l:=E.m (.s kd)) (by rw[←hm4];exact adT) atw,?_⟩;have h5':=h4'.VU an1 adT (st':= .busy) (ls:= .busy) (pe:=afS.pending) rfl
     rw[hm4]at h5';refine wpIn_mono (hb (E.m (.s kd)) h5' Y1) fun e a2 w2 hp2=>?_;have fin: ∀{ex:Ex} {s5:St} {E5:Env},NY kd n.1 s.b K ex s5→bq {E0 with up:=a::E0.up} E5 w0 w2 s5 a2→
       ∃v w',(Instr.endRound (E.m (.s kd)) (zC ex)).run P w2= .ok v w'∧ ∃x,Ending.returned v= .returned x∧ ∃r s' E',K r s'∧bq E0 E' w0 w' s' a∧Cz E' r x:=by
      intro ex s5 E5 hr SJ;unfold NY at hr
      split at hr
      ·rename_i f u n5 t5 ps5 akk Ya hup Xc;obtain⟨e5,hr⟩:=hr;obtain⟨aiE,ho5,atC,RO,hb5,f4,f5,f6,f7,f8,f9,fq⟩:=SJ.bx kd _ Xc;have hm5:E5.m (.s kd)=E.m (.s kd):=by rw[f9,e5,h9]
       have My:w2.heap[E5.m (.s kd)]? =some (.loop RO):=by rw[SJ.heap];exact hb5
       refine⟨_,_,run_endRound (P:=P) (zC ex) (by rw[←hm5];exact My),_,rfl,?_⟩;have h6':=SJ.VU Xc My (st':=aaT ex) (ls:=if(zC ex).isNone then .ready else .done) (pe:=zC ex) (by cases ex<;>simp[akq,zC,aaT])
       have h7':=h6'.pop (f:=f) (u:=u) hup
       rw[hm5]at h7';generalize hB:yH s.b (reach s5.b 4 (xL s.b s5.b)) (cT kd (.lp n5 t5 ps5 akk Ya (aaT ex)) s5.b)=B at hr;cases iQ:Sd {n:=f.n,t:=f.t,c:=[],g:=s5.g,nx:=s5.nx,up:=u,fl:=s5.fl,b:=B}with
       |false=>rw[iQ]at hr;exact hr.elim
       |true=>
        rw[iQ,aE]at hr;obtain⟨ff,_,h8'⟩:=h7'.drop rfl (b':=B) (fun d ob hd=>by rw[←hB]at hd;exact Ig hd) iQ;refine⟨_,_,_,hr,h8',?_⟩;cases ex<;>exact .v _
      ·exact hr.elim
     cases e with
     |normal=>obtain⟨s5,E5,hr,SJ⟩:=hp2;exact fin hr SJ
     |exit k=>obtain⟨s5,E5,hr,SJ⟩:=hp2;exact fin hr SJ
     |ret=>obtain⟨s5,E5,hr,SJ⟩:=hp2;exact fin hr SJ
     |goto l=>exact hp2.elim
     |panic c=>exact hp2.elim
     |outgrown=>exact hp2.elim
    ·exact Y1.elim
   |exit k=>obtain⟨s4,E4,Y1,_⟩:=hp;exact Y1.elim
   |ret=>obtain⟨s4,E4,Y1,_⟩:=hp;exact Y1.elim
   |goto l=>exact hp.elim
   |panic c=>exact hp.elim
   |outgrown=>exact hp.elim
 ·exact hk.elim
theorem LC(ok:Ok P C){g:Operand}{ps:Array Tmp}{nX body:Code}{Q:Ex→St→Prop}(ha: ∀l,M0 P nX (fun s Q=>qA C nX s Q) (some l))(hb: ∀l,M0 P body (fun s Q=>qA C body s Q) (some l))
  (h:bq E0 E w0 w s a)(hk:qA C (.rangeFunc g ps nX body) s Q):(Code.rangeFunc g ps nX body).wpIn (WF none) 0 P (Dr E0 w0 Q) a w:=by
 unfold qA at hk;have hgv:=h.ev (p:=[]) trivial g
 split at hk
 ·rename_i k cap dK eu;rw[dK]at hgv;cases Ni:a.eval g<;>rw[Ni]at hgv<;>cases hgv;rename_i ys hl hq;generalize QJ:C.base+999=kd at hk eu;have hk:=hk (w.heap.size+1)
  have h1:=h.clean.mark
  have F4:look kd s.clean.b=none:=eu
  let Fj:FuncId→Loop:=fun fn=>{state:= .ready,pending:=none,fn:=fn,tmps:=a.tmps,params:=ps,assign:=nX,body:=body,defers:=w.heap.size}
  have h2: ∀fn,bq E0 ((E.fL (.deferred (some []))).addKey (.s kd) (.loop (Fj fn))) w0 ((w.alloc (.deferred (some []))).alloc (.loop (Fj fn)))
    {s.clean with b:=cT kd (.lp (w.heap.size+1,s.n) s.clean.t ps.toList (fun _=>nX) (fun _=>body) .rdy) s.b} {a with defers:={target:= .collected w.heap.size,args:= #[]}::a.defers}:=fun fn=>by
   have xR: ¬(E.fL (.deferred (some []))).live (.s kd):=fun rB=>by obtain⟨ob,ho⟩:=h1.lv kd rB;rw[F4]at ho;cases ho
   have hE:=ot h1.wf xR (.loop (Fj fn))
   refine h1.tl F4 ⟨.inl rfl,by simp[Env.addKey],fun o hs=>?_,Fj fn,by simp[Env.addKey],h.sz,rfl,rfl,rfl,⟨rfl,rfl⟩,?_,?_⟩
   ·simp only[Env.addKey,if_true]at hs;have:=h1.wf.aI _ _ hs;omega
   ·simp[Env.addKey,Env.fL,←h.heap]
   ·have:=xF hE h1.wf (fun _=>false) (fun _ hf=>hf.elim) (t:=s.clean.t) (A:=a.tmps) (fun d x hd=>h1.tm d x hd trivial)
    rwa [lX (fun _=>rfl)]at this
  have hY:Te P (fun d args s2 K2=>bif bQ d kd then I6 kd ps.toList (fun _=>nX) (fun _=>body) (fun s Q=>qA C nX s Q) (fun s Q=>qA C body s Q) args s2 K2 else C.yl d args s2 K2):=by
   intro d args s2 K2 E0' E2 w0' w2 a2 vs F6 Nh hlen hv;by_cases hd:d=kd
   ·subst hd;rw[eE,aE]at F6;exact KW ha hb F6 Nh hlen hv
   ·rw[zh hd,aM]at F6;exact ok.yl F6 Nh hlen hv
  refine wpIn_rangeFunc ?_;intro fn _;have h3:=h2 fn
  have hwl:((w.alloc (.deferred (some []))).alloc (.loop (Fj fn))).heap=((E.fL (.deferred (some []))).addKey (.s kd) (.loop (Fj fn))).h:=h3.heap
  have hm:((E.fL (.deferred (some []))).addKey (.s kd) (.loop (Fj fn))).m (.s kd)=w.heap.size+1:=by simp[Env.addKey,Env.fL,←h.heap]
  obtain⟨zA,Cc⟩:=ok.B8 _ hY (vs:= .func (.yield (w.heap.size+1)) #[] #[]::ys) hk h3 (by simp[hl]) (fun q b y dM hy=>by
   cases q with
   |zero=>
    simp at dM hy;subst dM;subst hy;rw[←hm];exact .nM _ (.inl rfl)
   |succ q=>
    simp at dM hy;have xR: ¬(E.fL (.deferred (some []))).live (.s kd):=fun rB=>by obtain⟨ob,ho⟩:=h1.lv kd rB;rw[F4]at ho;cases ho
    have e1:=(hq q b y dM hy).ext (GL h.wf (.deferred (some []))) h.wf (fun _=>false) (fun _ hf=>hf.elim)
    have e2:=e1.1
    rw[lb (fun _=>rfl)]at e2;have e3:=(e2.ext (ot h1.wf xR (.loop (Fj fn))) h1.wf (fun _=>false) (fun _ hf=>hf.elim)).1
    rwa [lb (fun _=>rfl)]at e3)
  refine⟨w.heap.size+1,[{target:= .collected w.heap.size,args:= #[]}],(w.alloc (.deferred (some []))).alloc (.loop (Fj fn)),{target:= .fn (.func k) ys.toArray,args:= #[.func (.yield (w.heap.size+1)) #[] #[]]},(w.alloc (.deferred (some []))).alloc (.loop (Fj fn)),k,
   #[.func (.yield (w.heap.size+1)) #[] #[]]++ys.toArray,(w.alloc (.deferred (some []))).alloc (.loop (Fj fn)),run_enterLoop_outer _ _ _ _ _,?_,fun _ _=>trivial,?_,fun hd=>(by cases hd),?_⟩
  ·simp only[resolve,Ni];simp[go_sem]
  ·simp only[invoke];simp[go_sem,zA _ _]
  ·have MD:(Value.func (.yield (w.heap.size+1)) #[] #[]::ys).toArray= #[.func (.yield (w.heap.size+1)) #[] #[]]++ys.toArray:=Array.toList_inj.1 (by simp)
   rw[MD]at Cc;refine(callsIn_wide (n:=0)).2 (Calls.mono Cc ?_)
   rintro e w3 ⟨x,rfl,r,s3,E3,hr,hs3,_⟩
   unfold adm at hr
   split at hr
   ·rename_i n5 t5 ps5 akk Ya st5 Xc;obtain⟨e5,hr⟩:=hr;cases iQ:Sd {s3.clean with b:=del kd s3.b}with
    |false=>rw[iQ]at hr;exact hr.elim
    |true=>
     rw[iQ,aE]at hr;obtain⟨aiE,ho5,atC,RO,hb5,f4,f5,f6,f7,f8,f9,fq⟩:=hs3.bx kd _ Xc;have hm5:E3.m (.s kd)=w.heap.size+1:=f9.trans e5
     have My:w3.heap[E3.m (.s kd)]? =some (.loop RO):=by rw[hs3.heap];exact hb5
     have Ty:RO.state≠ .busy:=by
      cases st5 with
      |rdy=>rw[f8.1];simp
      |dn e=>rw[f8.1];simp
      |busy=>exact hr.elim
      |exh=>exact hr.elim
     have h6:=hs3.clean.VU Xc My (st':= .exh) (ls:= .exhausted) (pe:=RO.pending) rfl
     rw[hm5]at h6;have Pf:=run_endLoop (P:=P) (w:=w3) (l:=w.heap.size+1) (r:=RO) (by rw[←hm5];exact My) Ty
     have wT: ∀d ob,look d (del kd s3.b)=some ob→look d (cT kd (.lp n5 t5 ps5 akk Ya .exh) s3.b)=some ob:=fun d ob hd=>by
      rw[gp]at hd;rw[aF]
      split at hd
      ·cases hd
      ·rename_i ct;rw[if_neg ct];exact hd
     obtain⟨ff,_,h7⟩:=h6.drop rfl (b':=del kd s3.b) wT iQ;refine⟨_,_,Pf,?_⟩;cases st5 with
     |rdy=>
      rw[f8.2]at h7 ⊢;exact⟨_,_,hr,h7⟩
     |dn e=>
      rw[f8.2.1]at h7 ⊢;cases e with
      |normal=>exact absurd f8.2.1 (by rw[show zC Ex.normal=none from rfl];exact f8.2.2)
      |exit k=>exact wpIn_exit ⟨_,_,hr,h7⟩
      |ret=>exact wpIn_ret ⟨_,_,hr,h7⟩
     |busy=>exact hr.elim
     |exh=>exact hr.elim
   ·exact hr.elim
 ·exact hk.elim
theorem eC(ok:Ok P C)(hm:P.follows .mixedOrders=true): ∀(c:Code) (ro:Option Nat),(ro=none∨vM c=true)→cB C.cl C.tree c=true→M0 P c (fun s Q=>qA C c s Q) ro
 | .skip,ro,_,_=>fun h hk=>wpIn_skip ⟨_,_,hk,h⟩
 | .label l,ro,_,_=>fun h hk=>wpIn_label ⟨_,_,hk,h⟩
 | .exit id,ro,_,_=>fun h hk=>wpIn_exit ⟨_,_,hk,h⟩
 | .ret,ro,_,_=>fun h hk=>wpIn_ret ⟨_,_,hk,h⟩
 | .region id ops false,ro,_,_=>fun h hk=>by
  unfold qA at hk;refine wpIn_region_list (EJ ok ro (fun a w ⟨s',E',kh,h'⟩=>?_) h hk);have h3:=h'.clean.Hj rfl (C.dead id)
  cases hb:Nf (id+5000) C.op with
  |false=>rw[hb]at kh;exact⟨_,_,kh,h3⟩
  |true=>
   rw[hb,aE]at kh;unfold Lq at kh
   split at kh
   ·rename_i s5 SJ;obtain⟨E5,h5,_⟩:=eZ h3 SJ;obtain⟨s6,hw6,kh⟩:=kh;obtain⟨E6,h6⟩:=h5.wk hw6;exact⟨_,_,kh,h6⟩
   ·exact kh.elim
 | .region id ops true,ro,_,hd=>by
  intro h hk;rename_i E0 w0 Q s E a0 w1 hro0;unfold qA at hk;simp only[cB,Bool.and_eq_true]at hd;obtain⟨s',hk,s2,Nh,hQ⟩:=hk;subst Nh;refine wpIn_region_any hm (qB (cl:=C.cl) ro _ _ _ _ ?_);refine uk ok hd.1 (fun c a w hq=>hq) (fun a w ⟨s1,E',kh,h'⟩=>?_) (C.tree id) ops.size _ none hd.2 (h.drew _) hk;have fin: ∀{E2:Env} {s3:St},(bif Nf (id+5000) C.op then Lq C.ρ (IH C.op s'.clean.b) s3 (fun s2=>Q .normal s2)else Q .normal s3)→bq E0 E2 w0 w s3 a→ ∃s4 E4,Q .normal s4∧bq E0 E4 w0 w s4 a:=fun{E2 s3} hq h3=>by
   cases hb:Nf (id+5000) C.op with
   |false=>rw[hb]at hq;exact⟨_,_,hq,h3⟩
   |true=>
    rw[hb,aE]at hq;unfold Lq at hq
    split at hq
    ·rename_i s5 SJ;obtain⟨E5,h5,_⟩:=eZ h3 SJ;obtain⟨s6,hw6,hq⟩:=hq;obtain⟨E6,h6⟩:=h5.wk hw6;exact⟨_,_,hq,h6⟩
    ·exact hq.elim
  rcases kh with kh|kh
  ·exact fin hQ (by rw[←kh];exact h'.clean.Hj rfl _)
  ·obtain⟨E2,h2⟩:=h'.clean.wk kh;exact fin hQ (h2.clean.Hj rfl _)
 | .seq x y,ro,F0,hd=>fun h hk=>by
  unfold qA at hk;simp only[cB,Bool.and_eq_true]at hd;simp only[vM,Bool.and_eq_true]at F0;refine wpIn_seq (wpIn_mono (eC ok hm x ro (F0.imp id (·.1)) hd.1 h hk) fun e a' w' hq=>?_);cases e with
  |normal=>obtain⟨s',E',h1,h2⟩:=hq;exact eC ok hm y ro (F0.imp id (·.2)) hd.2 h2 h1
  |exit k=>exact hq
  |ret=>exact hq
  |goto l=>exact hq
  |panic c=>exact hq
  |outgrown=>exact hq
 | .cond c x y,ro,F0,hd=>fun h hk=>by
  unfold qA at hk;simp only[cB,Bool.and_eq_true]at hd;simp only[vM,Bool.and_eq_true]at F0;have hc:=h.ev (p:=[]) trivial c
  split at hk
  ·rename_i b hb;rw[hb]at hc;have hc':=bN hc
   exact wpIn_cond_split hc' (fun ht=>eC ok hm x ro (F0.imp id (·.1)) hd.1 h (hk.1 ht)) (fun hf=>eC ok hm y ro (F0.imp id (·.2)) hd.2 h (hk.2 hf))
  ·exact hk.elim
 | .block id x,ro,F0,hd=>fun h hk=>by
  unfold qA at hk;simp only[cB]at hd;simp only[vM]at F0;refine wpIn_block (wpIn_mono (eC ok hm x ro F0 hd h hk) fun e a' w' hq=>?_);cases e with
  |normal=>exact hq
  |exit k=>
   obtain⟨s',E',h1,h2⟩:=hq;dsimp only at h1;simp only[Exit.inBlock];by_cases hki:k=id
   ·subst hki;rw[eE,aE]at h1;rw[if_pos rfl];exact⟨s',E',h1,h2⟩
   ·rw[zh hki,aM]at h1;rw[if_neg hki];exact⟨s',E',h1,h2⟩
  |ret=>exact hq
  |goto l=>exact hq
  |panic c=>exact hq
  |outgrown=>exact hq
 | .loop x,ro,F0,hd=>by
  intro h hk;rename_i E0 w0 Q s E a w;unfold qA at hk;simp only[cB]at hd;simp only[vM]at F0;obtain⟨N,hg0⟩:=hk;obtain⟨s2,E1,hg,h1⟩: ∃s2 E1,dL (fun s Q=>qA C x s Q) Q N s2∧bq E0 E1 w0 w s2 a:=by
   rcases hg0 with hg|⟨s2,hw,hg⟩
   ·exact⟨_,_,hg,h⟩
   ·obtain⟨E1,h1⟩:=h.wk hw;exact⟨_,_,hg,h1⟩
  refine vx (fun n a w=> ∃s E,dL (fun s Q=>qA C x s Q) Q n s∧bq E0 E w0 w s a) N ⟨s2,E1,hg,h1⟩ ?_
  rintro n a w ⟨s3,E2,hg2,h2⟩
  cases n with
  |zero=>exact hg2.elim
  |succ n=>
   unfold dL at hg2;refine wpIn_mono (eC ok hm x ro F0 hd h2 hg2) fun e a' w' hq=>?_;cases e with
   |normal=>
    obtain⟨s',E',hq,h3⟩:=hq;rcases hq with hg4|⟨s4,hwk,hg4⟩
    ·exact⟨n,Nat.lt_succ_self n,s',E',hg4,h3⟩
    ·obtain⟨E3,h4⟩:=h3.wk hwk;exact⟨n,Nat.lt_succ_self n,s4,E3,hg4,h4⟩
   |exit k=>exact hq
   |ret=>exact hq
   |goto l=>exact hq
   |panic c=>exact hq
   |outgrown=>exact hq
 | .rangeFunc g ps x y,ro,F0,hd=>fun h hk=>by
  simp only[cB,Bool.and_eq_true]at hd;have:ro=none:=F0.resolve_right (by simp[vM])
  subst this;exact LC ok (fun l=>eC ok hm x (some l) (.inr hd.1.1) hd.2.1) (fun l=>eC ok hm y (some l) (.inr hd.1.2) hd.2.2) h hk
 | .scope x,ro,F0,hd=>fun h hk=>by
  unfold qA at hk;simp only[cB]at hd;simp only[vM]at F0;refine NB (wpIn_mono (eC ok hm x ro F0 hd h hk) fun e a' w' hq=>?_);cases e with
  |goto l=>exact hq
  |_=>exact hq
 | .goto _,_,_,_=>fun h hk=>by unfold qA at hk;exact hk.elim
 | .refuse _,_,_,_=>fun h hk=>by unfold qA at hk;exact hk.elim
end Ab
