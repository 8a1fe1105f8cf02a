/- PassesBlocks holds of all cores and names (no condition): a part of the proof: an abstract interpreter of the code that is proved sound, models of the functions, and laws of these models. -/
import Derived.Test.YtcdinjhcnhepeaaGreatDoorB01
import Derived.Test.YtcdinjhcnhepeaaGreatDoorProg
import Derived.DeepKeys3
import Derived.ChangeArms
import Derived.ChangeSame
import Derived.Test.YtcdinjhcnhepeaaGreatDoorCards
import Derived.Test.YtcdinjhcnhepeaaGreatDoorTie
import Derived.ProofKit
import Derived.OpenShut
import Derived.WideKeyArgs
import Derived.Deep.DeepHandedRow
import Derived.Lib.LaidTab
set_option linter.unusedVariables false
set_option linter.unusedSimpArgs false
set_option linter.unusedSectionVars false
namespace Ab
open Go
variable{P:Program}{L:nK}{E0 E E':Env}{w0 w w':World}{s s':St}{a:Act}{p:Path}{C:dx}
def number{α:Type}:Nat→List α→List (Nat×α)
 |_,[]=>[]
 |k,a::r=>(k,a)::number (k+1) r
def init(n:Nat)(args:List AV)(g:Nat→Option Ob)(nx:Nat)(fl:Bool:=false):St:={n:=n,t:=number 0 args,b:=[],c:=[],g:=g,nx:=nx,fl:=fl}
def Uy(L:nK)(s:St):ResultVar→Option AV
 | .tmp t=>some (bP s [] (.tmp t))
 | .cell a t=>match L t with
  |some ti=>match ti.k,bP s [] (.tmp a)with
   | .arr n _,.ptr (.s d) 0=>match look d s.b with
    |some (.arr z xs)=>some (.ar n z xs)
    |_=>none
   |_,p=>VY s ti p
  |none=>none
def aaf(I:Pr)(L:nK)(s:St):ResultVar→Prop
 | .tmp _=>True
 | .cell a t=>match L t with
  |some ti=>match ti.k,bP s [] (.tmp a)with
   | .arr n _,.ptr (.s d) 0=>match look d s.b with
    |some (.arr z xs)=>I.fR xs=n∧n*z=ti.size
    |_=>True
   |_,_=>True
  |none=>True
def HN(I:Pr)(L:nK)(s:St):List ResultVar→Prop
 |[]=>True
 |r::rs=>aaf I L s r∧HN I L s rs
def s8(L:nK)(s:St):List ResultVar→Option (List AV)
 |[]=>some []
 |r::rs=>match Uy L s r with
  |some v=>match s8 L s rs with
   |some vs=>some (v::vs)
   |none=>none
  |none=>none
def single:List AV→AV
 |[v]=>v
 |vs=> .gw vs
def forced(a:AV)(K:AV→Prop):Prop:=
 match a with
 | .any=>K .any
 | .v x=>K (.v x)
 | .sl r xs=>K (.sl r xs)
 | .gs r t xs=>K (.gs r t xs)
 | .aR r cs off=>K (.aR r cs off)
 | .ptr k off=>K (.ptr k off)
 | .eW k n=>K (.eW k n)
 | .ca k i off z=>K (.ca k i off z)
 | .mp i=>K (.mp i)
 | .nM k=>K (.nM k)
 | .ar n z xs=>K (.ar n z xs)
 | .fn f cap=>K (.fn f cap)
 | .bm f cs=>K (.bm f cs)
 | .lB r z xs=>K (.lB r z xs)
 | .agg cs=>K (.agg cs)
 | .gw vs=>K (.gw vs)
theorem Cg(a:AV)(K:AV→Prop):forced a K=K a:=by cases a<;>rfl
def G6(C:dx)(rs:List ResultVar)(s:St)(R:AV→(Nat→Option Ob)→Nat→Prop):Prop:=
 match s8 C.L s rs with
 |some vs=>match kF C.ρ (kX vs) s with
  |some s1=>match s8 C.L s1 rs with
   |some NH=>HN C.I C.L s1 rs∧cr (NH.map rd)=true∧forced (single (NH.map rd)) fun r=>match s1 with|⟨_,_,_,_,g,nx,_,_⟩=>R r g nx
   |none=>False
  |none=>False
 |none=>False
def TH(P:Program)(f:Nat)(args:List AV)(g:Nat→Option Ob)(nx:Nat)(R:AV→(Nat→Option Ob)→Nat→Prop):Prop:=
 cr args=true→ ∀(E:Env) (w:World) (vs:List Value),xy E w g nx→vs.length=args.length→(∀(q:Nat) (a:AV) (y:Value),args[q]? =some a→vs[q]? =some y→Cz E a y)→
  Calls P f vs.toArray w fun e w'=> ∃r g' iP x E',R r g' iP∧e= .returned x∧xy E' w' g' iP∧Ext du E E'∧jk w w'∧Cz E' r x∧bX r=true∧cf w w'
def vq(P:Program)(fl:Bool)(f:Nat)(args:List AV)(g:Nat→Option Ob)(nx:Nat)(R:AV→(Nat→Option Ob)→Nat→Prop):Prop:=
 cr args=true→ ∀(E:Env) (w:World) (vs:List Value),xy E w g nx→(fl=true→ ∀b o,E.aI b o→E.dN b<1000000)→vs.length=args.length→(∀(q:Nat) (a:AV) (y:Value),args[q]? =some a→vs[q]? =some y→Cz E a y)→
  Calls P f vs.toArray w fun e w'=> ∃r g' iP x E',R r g' iP∧e= .returned x∧xy E' w' g' iP∧Ext du E E'∧jk w w'∧Cz E' r x∧bX r=true∧cf w w'
theorem vq.plain{f:Nat}{args:List AV}{g:Nat→Option Ob}{nx:Nat}{R:AV→(Nat→Option Ob)→Nat→Prop}(h:vq P false f args g nx R):TH P f args g nx R:=
 fun hi E w vs hG hl hv=>h hi E w vs hG (fun e=>by cases e) hl hv
theorem TH.call{f:Nat}{args:List AV}{g:Nat→Option Ob}{nx:Nat}{r:AV}{g':Nat→Option Ob}{iP:Nat}(h:TH P f args g nx fun r1 g1 Ax=>r1=r∧g1=g'∧Ax=iP):lA P f args g nx r g' iP:=
 fun hi E w vs hG hl hv=>(h hi E w vs hG hl hv).mono fun e w' ⟨r1,g1,Ax,x,E',⟨e1,e2,e3⟩,h1,h2,h3,h4,h5,h6,h7⟩=>by subst e1;subst e2;subst e3;exact⟨x,E',h1,h2,h3,h4,h5,h6,h7⟩
theorem TH.mono{f:Nat}{args:List AV}{g:Nat→Option Ob}{nx:Nat}{R R':AV→(Nat→Option Ob)→Nat→Prop}(h:TH P f args g nx R)(hR: ∀r g n,R r g n→R' r g n):TH P f args g nx R':=
 fun hi E w vs hG hl hv=>(h hi E w vs hG hl hv).mono fun e w' ⟨r1,g1,Ax,x,E',h0,h1,h2,h3,h4,h5,h6,h7⟩=>⟨r1,g1,Ax,x,E',hR _ _ _ h0,h1,h2,h3,h4,h5,h6,h7⟩
theorem C2{α:Type}{d:Nat}{x:α}: ∀{k:Nat} {l:List α},look d (number k l)=some x→k≤d∧l[d - k]? =some x
 |k,[],h=>by simp[number,look]at h
 |k,y::r,h=>by
  rw[number,aC]at h;by_cases hk:k=d
  ·subst hk;rw[if_pos rfl]at h;cases h;simp
  ·rw[if_neg hk]at h;obtain⟨h1,h2⟩:=C2 h;refine⟨by omega,?_⟩;rw[show d - k=(d - (k+1))+1 by omega];simpa using h2
theorem Ay{args:List AV}{n:Nat}{vs:List Value}(hl:vs.length=args.length)(hv: ∀(q:Nat) (a:AV) (y:Value),args[q]? =some a→vs[q]? =some y→Cz E a y):
  ∀d x,look d (number 0 args)=some x→Cz E x ((vs.toArray++Array.replicate (n - vs.toArray.size) undef).getD d undef):=fun d x hd=>by
 obtain⟨h1,h2⟩:=C2 hd;have aV:d<vs.length:=by rw[hl];simpa using(bh.1 h2).1
 have h3:vs[d]? =some vs[d]:=by simp[aV]
 have:=hv d x vs[d] (by simpa using h2) h3
 rw[Array.getD_eq_getD_getElem?,Array.getElem?_append_left (by simpa using aV)];simpa[aV]using this
theorem Mw{fl:Bool}{args:List AV}{g:Nat→Option Ob}{nx n:Nat}{vs:List Value}(hG:xy E w g nx)(fS:fl=true→ ∀b o,E.aI b o→E.dN b<1000000)(hl:vs.length=args.length)(hn:args.length≤n)
  (hv: ∀(q:Nat) (a:AV) (y:Value),args[q]? =some a→vs[q]? =some y→Cz E a y):
  bq {E with up:=[]} E w w (init n args g nx fl) {tmps:=vs.toArray++Array.replicate (n - vs.toArray.size) undef,defers:=[]}:=by
 refine⟨hG.heap,hG.wf,⟨[],rfl,List.nodup_nil,fun B hB=>by cases hB⟩,trivial,?_,fun d x hd _=>Ay hl hv d x hd,fun d q hd=>?_,fun d ob hd=>?_,fun d hl=>absurd hl (hG.nl (.s d) rfl),hG.gx,hG.gl,
  ⟨Nat.le_refl _,fun _ _ h=>⟨h,rfl,rfl⟩,fun _ h=>⟨h,rfl,rfl⟩,fun _ _ _=>⟨rfl,rfl,fun _=>Iff.rfl,rfl⟩⟩,fun b _=>hG.own b,.refl _,hG.gk,hG.nl,hG.ng,fun e b=>⟨hG.ng b,fS e b⟩⟩
 ·simp[init];omega
 ·simp[init,look]at hd
 ·simp[init,look]at hd
def BH(P:Program)(w:World)(tmps:Array Value)(r:ResultVar):Sem Value:=
 match r with
 | .tmp t=>pure (tmps.getD t undef)
 | .cell a t=>do loadVar t (←asAddr (tmps.getD a undef))
theorem HM{I:Pr}: ∀{rs:List ResultVar} {q:Nat} {r:ResultVar},HN I L s rs→rs[q]? =some r→aaf I L s r
 |[],q,r,_,h=>by simp at h
 |x::rs,q,r,hp,h=>by
  cases q with
  |zero=>simp at h;subst h;exact hp.1
  |succ q=>exact HM hp.2 (by simpa using h)
theorem RM(ok:Ok P C)(h:bq E0 E w0 w s a){r:ResultVar}{v:AV}(hr:Uy C.L s r=some v)(hp:aaf C.I C.L s r): ∃x,(BH P w a.tmps r).run P w= .ok x w∧Cz E v x:=by
 cases r with
 |tmp t=>cases hr;exact⟨_,rfl,h.ev (p:=[]) trivial (.tmp t)⟩
 |cell d t=>
  have yb: ∃x,(execOp a.eval {dst:=none,op:= .load t (.tmp d),type:=0,pos:= "",after:= #[],guard:=none}).run P w= .ok (.value x) w∧Cz E v x:=by
   simp only[Uy]at hr;simp only[aaf]at hp;cases hL:C.L t with
   |none=>rw[hL]at hr;cases hr
   |some ti=>
    rw[hL]at hr hp;dsimp only at hr hp
    split at hr
    ·rename_i n e' d' hk1 F6
     split at hr
     ·rename_i z xs eu;cases hr;have hp:C.I.fR xs=n∧n*z=ti.size:=by
       rw[hk1,F6]at hp;simp only[eu]at hp;exact hp
      obtain⟨p1,p2⟩:=hp;obtain⟨r,hr1,YT⟩:=v7 (K:=fun r _=>r= .ar n z xs) (o:={dst:=none,op:= .load t (.tmp d),type:=0,pos:= "",after:= #[],guard:=none}) (p:=[]) ok.lay ok.al h rfl (by
       unfold Lb;rw[hL];dsimp only;rw[F6];dsimp only;rw[eu];dsimp only;rw[hk1];exact⟨⟨rfl,p1,p2⟩,rfl⟩)
      subst hr1;exact YT trivial
     ·cases hr
    ·have hpu:sB al C.L s [] (Op.load t (.tmp d))=some v:=by
      simp only[sB];rw[hL];exact hr
     exact uA ok.lay h (p:=[]) trivial (o:={dst:=none,op:= .load t (.tmp d),type:=0,pos:= "",after:= #[],guard:=none}) hpu
  obtain⟨x,h1,h2⟩:=yb;have dK:a.eval (.tmp d)=a.tmps.getD d undef:=rfl
  simp only[execOp,dK]at h1;simp only[BH];cases hv:a.tmps.getD d undef with
  |pointer q=>
   cases q with
   |none=>rw[hv]at h1;simp[Instr.loadAt,Instr.sureAddr,stuck,Sem.run_bind,Sem.run,Result.andThen]at h1
   |some ad=>
    rw[hv]at h1;have e1:(Instr.loadAt t (.pointer (some ad))).run P w=(loadVar t ad).run P w:=rfl
    have e2:(do loadVar t (←asAddr (.pointer (some ad))):Sem Value).run P w=(loadVar t ad).run P w:=by simp[asAddr,go_sem]
    rw[e2,←e1];rw[Sem.run_bind]at h1;cases YT:(Instr.loadAt t (.pointer (some ad))).run P w with
    |ok y w2=>rw[YT]at h1;cases h1;exact⟨_,rfl,h2⟩
    |halt y w2=>rw[YT]at h1;cases h1
  |_=>rw[hv]at h1;simp[Instr.loadAt,Instr.sureAddr,stuck,Sem.run_bind,Sem.run,Result.andThen]at h1
theorem HO{L:nK}: ∀{rs:List ResultVar} {vs:List AV},s8 L s rs=some vs→vs.length=rs.length∧ ∀(q:Nat) (r:ResultVar) (v:AV),rs[q]? =some r→vs[q]? =some v→Uy L s r=some v
 |[],vs,h=>by cases h;exact⟨rfl,fun q r v h=>by simp at h⟩
 |r::rs,vs,h=>by
  unfold s8 at h;cases h1:Uy L s r with
  |none=>rw[h1]at h;cases h
  |some v=>
   rw[h1]at h;dsimp only at h;cases h2:s8 L s rs with
   |none=>rw[h2]at h;cases h
   |some vs'=>
    rw[h2]at h;cases h;obtain⟨h3,h4⟩:=HO h2;refine⟨by simp[h3],fun q r' v' hq hv=>?_⟩;cases q with
    |zero=>simp at hq hv;subst hq;subst hv;exact h1
    |succ q=>exact h4 q r' v' (by simpa using hq) (by simpa using hv)
theorem sA(ok:Ok P C)(h:bq E0 E w0 w s a){fn:Func}{vs:List AV}(hr:s8 C.L s fn.results.toList=some vs)(hrp:HN C.I C.L s fn.results.toList):
  ∃x,(results fn a.tmps).run P w= .ok x w∧Cz E (single vs) x:=by
 obtain⟨hl,hq⟩:=HO hr;let jM:ResultVar→Value:=fun r=>match(BH P w a.tmps r).run P w with
  | .ok v _=>v
  |_=>undef
 have hx: ∀(q:Nat) (r:ResultVar),fn.results.toList[q]? =some r→ ∃v,vs[q]? =some v∧(BH P w a.tmps r).run P w= .ok (jM r) w∧Cz E v (jM r):=by
  intro q r hqr;have aV:q<vs.length:=by rw[hl];exact(bh.1 hqr).1
  obtain⟨x,h1,h2⟩:=RM ok h (hq q r vs[q] hqr (by simp[aV])) (HM hrp hqr);have:jM r=x:=by simp only[jM,h1]
  rw[this];exact⟨vs[q],by simp[aV],h1,h2⟩
 have W9:(fn.results.mapM (BH P w a.tmps)).run P w= .ok (fn.results.map jM) w:=Lw P w fn.results fun r hr=>by
  obtain⟨q,vG⟩:=List.getElem?_of_mem hr;obtain⟨v,_,h2,_⟩:=hx q r vG;exact h2
 have eB:(results fn a.tmps).run P w= .ok (if h:(fn.results.map jM).size=1 then(fn.results.map jM)[0]else .tuple (fn.results.map jM)) w:=by
  have:results fn a.tmps=(do let vs←fn.results.mapM (BH P w a.tmps);pure (if h:vs.size=1 then vs[0]else .tuple vs)):=by
   unfold results;congr 2
  rw[this,Sem.run_bind,W9];rfl
 refine⟨_,eB,?_⟩;have anz: ∀(q:Nat) (b:AV) (y:Value),vs[q]? =some b→(fn.results.map jM).toList[q]? =some y→Cz E b y:=by
  intro q b y hb hy;have aV:q<fn.results.toList.length:=by rw[←hl];exact(bh.1 hb).1
  obtain⟨v,h1,_,h3⟩:=hx q fn.results.toList[q] (by simp[aV]);rw[h1]at hb;cases hb;simp at hy;obtain⟨r',h4,rfl⟩:=hy;rw[←Array.getElem?_toList,fp aV]at h4;cases h4;exact h3
 by_cases h1:(fn.results.map jM).size=1
 ·rw[dif_pos h1];have QI:vs.length=1:=by rw[hl];simpa using h1
  cases hvs:vs with
  |nil=>rw[hvs]at QI;simp at QI
  |cons v r=>
   have hr0:r=[]:=by rw[hvs]at QI;simpa using QI
   subst hr0;exact anz 0 v _ (by rw[hvs];rfl) (by rw[Array.getElem?_toList];exact Array.getElem?_eq_getElem _)
 ·rw[dif_neg h1];have ct:vs.length≠1:=by rw[hl];simpa using h1
  have:single vs= .gw vs:=by
   unfold single
   split
   ·simp at ct
   ·rfl
  rw[this];exact Cz.gw (E:=E) vs (fn.results.map jM).toList (by simp[hl]) anz
theorem tA{fn:Func}{tmps:Array Value}{R:Ending→World→Prop}: ∀{ds:List Deferred} {E:Env} {w:World},bq E0 E w0 w s {tmps:=tmps,defers:=ds}→
  (∀E' w',bq E0 E' w0 w' s {tmps:=tmps,defers:=[]}→ ∃v,(results fn tmps).run P w'= .ok v w'∧R (.returned v) w')→LeavesInM Fence.wide 0 P fn tmps R ds .returning w
 |[],E,w,h,hR=>by
  obtain⟨v,h1,h2⟩:=hR E w h;exact⟨v,h1,h2⟩
 |d::ds,E,w,h,hR=>by
  obtain⟨B,h1,h2,h3⟩:=h.take rfl;exact⟨by simp,.inl ⟨B,_,h1,run_takeDeferred h2,tA h3 hR⟩⟩
theorem Bh(ok:Ok P C)(hm:P.follows .mixedOrders=true){f:Nat}{fn:Func}{c:Code}(hf:P.funcs[f]? =some fn)(hb:fn.body=some c)(hd:cB C.cl C.tree c=true){vs:List Value}{Q:Ex→St→Prop}{R:Ending→World→Prop}
  (h:bq E0 E w0 w s {tmps:=vs.toArray++Array.replicate (fn.ntmps - vs.toArray.size) undef,defers:=[]})(hk:qA C c s Q)(hex: ∀k s',¬Q (.exit k) s')
  (Pf: ∀s' E' w' tmps,(Q .normal s'∨Q .ret s')→bq E0 E' w0 w' s' {tmps:=tmps,defers:=[]}→ ∃v,(results fn tmps).run P w'= .ok v w'∧R (.returned v) w'):Calls P f vs.toArray w R:=by
 refine(callsIn_wide (n:=0)).1 (callsIn_of_wp_marks (F:=Fence.wide) hf hb trivial ?_ rfl);refine wpIn_mono (F:=Fence.wide) (eC ok hm c none (.inl rfl) hd h hk) fun e a w' hq=>?_;cases e with
 |normal=>obtain⟨s',E',h1,h2⟩:=hq;exact tA h2 fun E2 w2 h3=>Pf s' E2 w2 _ (.inl h1) h3
 |ret=>obtain⟨s',E',h1,h2⟩:=hq;exact tA h2 fun E2 w2 h3=>Pf s' E2 w2 _ (.inr h1) h3
 |exit k=>obtain⟨s',E',h1,h2⟩:=hq;exact absurd h1 (hex k s')
 |goto l=>exact hq.elim
 |panic c=>exact hq.elim
 |outgrown=>exact hq.elim
theorem vq.of(ok:Ok P C)(hm:P.follows .mixedOrders=true){f:Nat}{fn:Func}{c:Code}(hf:P.funcs[f]? =some fn)(hb:fn.body=some c)(hd:cB C.cl C.tree c=true){args:List AV}{g:Nat→Option Ob}{nx:Nat}
  (hn:args.length≤fn.ntmps){R:AV→(Nat→Option Ob)→Nat→Prop}(fl:Bool)
  (hk:qA C c (init fn.ntmps args g nx fl) (fun e s=>match e with
   | .normal=>G6 C fn.results.toList s R
   | .ret=>G6 C fn.results.toList s R
   |_=>False)):vq P fl f args g nx R:=by
 intro hi E w vs hG fS hl hv;refine Bh ok hm hf hb hd (Mw hG fS hl hn hv) hk (fun k s' h=>h) fun s' E1 w' tmps hq h=>?_;have hr:G6 C fn.results.toList s' R:=hq.elim id id
 unfold G6 at hr;cases h1:s8 C.L s' fn.results.toList with
 |none=>rw[h1]at hr;exact hr.elim
 |some vs=>
  rw[h1]at hr;dsimp only at hr;cases h2:kF C.ρ (kX vs) s' with
  |none=>rw[h2]at hr;exact hr.elim
  |some s1=>
   rw[h2]at hr;dsimp only at hr;cases h3:s8 C.L s1 fn.results.toList with
   |none=>rw[h3]at hr;exact hr.elim
   |some NH=>
    rw[h3]at hr;obtain⟨hrp,kY,hR⟩:=hr;rw[Cg]at hR;obtain⟨E2,zx,_⟩:=eZ h h2;obtain⟨x,h4,h5⟩:=sA ok zx h3 hrp;have Xg:Ab.bX (single (NH.map rd))=true:=by
     unfold single
     split
     ·rename_i v hv;rw[hv]at kY;simp only[cr,Bool.and_true]at kY;exact kY
     ·exact kY
    refine⟨x,h4,_,_,_,x,E2.mask,hR,rfl,zx.mask,?_,zx.same,?_,?_,fun b hb=>?_⟩
    ·refine⟨zx.ext.size,zx.ext.aI,fun k hk=>?_,fun b hb hg=>?_⟩
     ·cases k with
      |s d=>exact absurd hk (hG.nl (.s d) rfl)
      |r d j=>exact absurd hk (hG.nl (.r d j) rfl)
      |o i=>obtain⟨k1,k2,k3⟩:=zx.ext.live _ hk;exact⟨⟨rfl,k1⟩,k2,k3⟩
     ·obtain⟨k1,k2,k3,k4⟩:=zx.ext.bw b hb hg;refine⟨?_,k2,k3,k4⟩;simp only[Env.mask];have k1':E2.own b=E.own b:=k1
      rw[k1',hG.own b];rfl
    ·refine(AH E2).bX ?_ ?_
     ·have h6:single (NH.map rd)=rd (single NH):=by
       unfold single;cases NH with
       |nil=>rfl
       |cons v r=>cases r with
        |nil=>rfl
        |cons v2 r2=>
         simp only[List.map_cons,rd,rA];rw[show mc (fun _=>true) (v::v2::r2)=(v::v2::r2).map (rA fun _=>true)from by
          generalize v::v2::r2=l
          induction l with
          |nil=>rfl
          |cons x l ih=>simp[mc,ih]]
         rfl
      rw[h6];exact(Cz.ext (Ext.refl (fun _=>False) E2) zx.wf (fun _=>true) (fun _ h=>h.elim) h5).1
     ·exact Xg
    ·exact Xg
    ·have k2:=(zx.ext.bw b (by show b<E.h.size;rw[←hG.heap];exact hb) (hG.ng b)).2.1
     rw[zx.heap,hG.heap];exact k2
theorem TH.of(ok:Ok P C)(hm:P.follows .mixedOrders=true){f:Nat}{fn:Func}{c:Code}(hf:P.funcs[f]? =some fn)(hb:fn.body=some c)(hd:cB C.cl C.tree c=true){args:List AV}{g:Nat→Option Ob}{nx:Nat}
  (hn:args.length≤fn.ntmps){R:AV→(Nat→Option Ob)→Nat→Prop}
  (hk:qA C c (init fn.ntmps args g nx) (fun e s=>match e with
   | .normal=>G6 C fn.results.toList s R
   | .ret=>G6 C fn.results.toList s R
   |_=>False)):TH P f args g nx R:=(vq.of ok hm hf hb hd hn false hk).plain
structure FI where
 c:Unit→Code
 n:Nat
 rs:List ResultVar
 tree:Nat→Tree
 op:List Nat
 ρ:Nat
 dead:Nat→List Nat
 hand:Option (Pr→List AV→St→bd→Prop)
def Gq(n:Nat)(args:List AV)(s:St):St:={n:=n,t:=number 0 args,b:=s.b,c:=[],g:=s.g,nx:=s.nx,up:={n:=s.n,t:=s.clean.t}::s.up,fl:=s.fl}
def aae(I:Pr)(L:nK)(rs:List ResultVar)(b0:List (Nat×Ob))(K:bd)(s:St):Prop:=
 match s8 L s rs,s.up with
 |some vs,f::u=>HN I L s rs∧(fun s':St=>(Sd s'&&hasB s'.b (kX vs))=true∧forced (single vs) (fun r=>K r s')) {n:=f.n,t:=f.t,c:=[],g:=s.g,nx:=s.nx,up:=u,fl:=s.fl,b:=yH b0 (reach s.b 4 (kX vs++xL b0 s.b)) s.b}
 |_,_=>False
def abc(I:Pr)(L:nK)(rs:List ResultVar)(b0:List (Nat×Ob))(K:bd):Ex→St→Prop
 | .normal,s=>aae I L rs b0 K s
 | .ret,s=>aae I L rs b0 K s
 | .exit _,_=>False
def vP(T:Nat→Option FI)(k:Nat):Bool:=match T k with|some _=>true|none=>false
def WV(C0:dx)(T:Nat→Option FI)(F:Nat→dx):YH→Nat→List AV→St→bd→Prop:=fun yl k args s K=>match T k with
  |some fi=>(match fi.hand with
   |some H=>H C0.I args s K
   |none=>(bif mM args.length fi.n then qA {F k with tree:=fi.tree,op:=fi.op,ρ:=fi.ρ,dead:=fi.dead,yl:=yl} (fi.c ()) (Gq fi.n args s) (abc C0.I C0.L fi.rs s.b K)else False))
  |none=>False
def nP(C0:dx)(T:Nat→Option FI):Nat→Nat→dx
 |0,base=>{C0 with base:=base*1000,tD:=vP T,inl:=fun _ _ _ _ _=>False,B8:=fun _ _ _ _ _=>False,yl:=fun _ _ _ _=>False}
 |n+1,base=>{C0 with base:=base*1000,tD:=vP T,yl:=fun _ _ _ _=>False,inl:=(fun yl k args s K=>match T k with|some fi=>(match fi.hand with|some H=>H C0.I args s K|none=>(bif mM args.length fi.n then qA {nP C0 T n (base*256+k)with tree:=fi.tree,op:=fi.op,ρ:=fi.ρ,dead:=fi.dead,yl:=yl} (fi.c ()) (Gq fi.n args s) (abc C0.I C0.L fi.rs s.b K)else False))|none=>False),B8:=(fun yl k args s K=>match T k with|some fi=>(match fi.hand with|some H=>H C0.I args s K|none=>(bif mM args.length fi.n then qA {nP C0 T n (base*256+k)with tree:=fi.tree,op:=fi.op,ρ:=fi.ρ,dead:=fi.dead,yl:=yl} (fi.c ()) (Gq fi.n args s) (abc C0.I C0.L fi.rs s.b K)else False))|none=>False)}
def Ys(P:Program)(k:Nat)(H:Pr→List AV→St→bd→Prop):Prop:=
 ov P k∧ ∀{args:List AV} {s:St} {K:bd} {E0 E:Env} {w0 w:World} {a:Act} {vs:List Value},H al args s K→bq E0 E w0 w s a→vs.length=args.length→(∀(q:Nat) (b:AV) (y:Value),args[q]? =some b→vs[q]? =some y→Cz E b y)→
  Calls P k vs.toArray w fun e w'=> ∃x,e= .returned x∧ ∃r s' E',K r s'∧bq E0 E' w0 w' s' a∧Cz E' r x
def mg(P:Program)(cl:Nat→Bool)(k:Nat)(fi:FI):Prop:=(∃H,fi.hand=some H∧Ys P k H)∨fi.hand=none∧ ∃fn,P.funcs[k]? =some fn∧fn.body=some (fi.c ())∧fn.ntmps=fi.n∧fn.results.toList=fi.rs∧cB cl fi.tree (fi.c ())=true∧ov P k
def bp(P:Program)(cl:Nat→Bool)(T:Nat→Option FI):Prop:= ∀k fi,T k=some fi→mg P cl k fi
theorem Qr{C0:dx}{T:Nat→Option FI}: ∀{n base:Nat},(nP C0 T n base).L=C0.L∧(nP C0 T n base).I=C0.I∧(nP C0 T n base).call=C0.call∧(nP C0 T n base).cl=C0.cl∧(nP C0 T n base).tD=vP T
 |0,_=>⟨rfl,rfl,rfl,rfl,rfl⟩
 |_+1,_=>⟨rfl,rfl,rfl,rfl,rfl⟩
theorem CY{C0:dx}{T:Nat→Option FI}: ∀{n base:Nat},(nP C0 T n base).keys=C0.keys∧(nP C0 T n base).eqs=C0.eqs
 |0,_=>⟨rfl,rfl⟩
 |_+1,_=>⟨rfl,rfl⟩
theorem alj(P:Program):Te P (fun _ _ _ _=>False):=fun hk=>hk.elim
theorem OW{C0:dx}{T:Nat→Option FI}: ∀{n base:Nat},Te P (nP C0 T n base).yl
 |0,_=>alj P
 |_+1,_=>alj P
theorem Mh{b:List (Nat×Ob)}{vs:List AV}(h:hasB b (kX vs)=true):hasB b (AM (single vs))=true:=by
 unfold single
 split
 ·rename_i v;simp only[kX,List.append_nil]at h;exact h
 ·exact h
theorem Mv{C0:dx}{T:Nat→Option FI}(hT:bp P C0.cl T)(hL:bj P C0.L)(hI:C0.I=al)(hc:CA P C0)(jh: ∀k,C0.cl k=true→vP T k=false)(tH: ∀t ks,C0.keys t=some ks→KeyLaw P t ks)(F9: ∀t ks,C0.eqs t=some ks→vJ P t ks)(hm:P.follows .mixedOrders=true)(n b0:Nat)(aua: ∀base,Ds P (nP C0 T n base)∧Ds P {nP C0 T n base with inl:=(nP C0 T n base).B8})(C1:dx):Ds P {C1 with inl:=WV C0 T (fun k=>nP C0 T n (b0*256+k))}:=
 fun yl YR {k args s K E0 E w0 w a vs} hk h hl hv=>by
  replace hk:WV C0 T (fun k=>nP C0 T n (b0*256+k)) yl k args s K:=hk;simp only[WV]at hk;generalize b0*256+k=base at hk;obtain⟨Bu,at7⟩:=aua base;cases kh:T k with
  |none=>rw[kh]at hk;exact hk.elim
  |some fi=>
   rw[kh]at hk;dsimp only at hk;rcases hT k fi kh with⟨H,hH,zA,anN⟩|⟨hH,fn,f1,f2,f3,f4,f5,f6⟩
   ·rw[hH]at hk;rw[hI]at hk;exact⟨zA,anN hk h hl hv⟩
   rw[hH]at hk;dsimp only at hk;refine⟨f6,?_⟩;cases hle:mM args.length fi.n with
   |false=>rw[hle]at hk;exact hk.elim
   |true=>
    rw[hle,aE]at hk;have aiF:args.length≤fi.n:=by simpa using hle
    obtain⟨m1,m2,m3,m4,m5⟩:=Qr (C0:=C0) (T:=T) (n:=n) (base:=base);have ok':Ok P {nP C0 T n base with tree:=fi.tree,op:=fi.op,ρ:=fi.ρ,dead:=fi.dead,yl:=yl}:=
     ⟨by show bj P (nP C0 T n base).L;rw[m1];exact hL,m2.trans hI,fun ρ f args g nx r g' iP hh=>hc ρ f args g nx r g' iP (by rw[←m3];exact hh),fun yl' aim {_ _ _ _ _ _ _ _ _ _} hh=>Bu yl' aim hh,fun yl' aim {_ _ _ _ _ _ _ _ _ _} hh=>at7 yl' aim hh,YR,fun k hk=>by show(nP C0 T n base).tD k=false;rw[m5];exact jh k (by rw[←m4];exact hk),
      fun t ks hk=>tH t ks (by have hk:(nP C0 T n base).keys t=some ks:=hk;rw[(CY (C0:=C0) (T:=T) (n:=n) (base:=base)).1]at hk;exact hk),fun t ks hk=>F9 t ks (by have hk:(nP C0 T n base).eqs t=some ks:=hk;rw[(CY (C0:=C0) (T:=T) (n:=n) (base:=base)).2]at hk;exact hk)⟩
    have hs:=h.push (n:=fi.n) (t:=number 0 args) (A:=vs.toArray++Array.replicate (fi.n - vs.toArray.size) undef) (by simp;omega) (Ay hl hv)
    rw[←f3]at hs;refine Bh ok' hm f1 f2 (by show cB (nP C0 T n base).cl _ _=true;rw[m4];exact f5) (s:=Gq fi.n args s) (by rw[←f3];exact hs) hk (fun k s' hh=>hh) fun s' E' w' tmps hq hs'=>?_;have hr:aae C0.I C0.L fi.rs s.b K s':=hq.elim id id
    unfold aae at hr
    split at hr
    ·rename_i NH f u h1 hup;obtain⟨hrp,hr⟩:=hr;obtain⟨x,h4,h5⟩:=sA ok' hs' (fn:=fn) (vs:=NH) (by rw[f4];show s8 (nP C0 T n base).L s' fi.rs=_;rw[m1];exact h1) (by rw[f4];show HN (nP C0 T n base).I (nP C0 T n base).L s' fi.rs;rw[m1,m2];exact hrp);generalize hB:yH s.b (reach s'.b 4 (kX NH++xL s.b s'.b)) s'.b=B at hr;obtain⟨iQ,hr⟩:=hr
     ·rw[Cg]at hr;simp only[Bool.and_eq_true]at iQ;obtain⟨ff,hff,h8⟩:=(hs'.pop hup).drop rfl (b':=B) (fun d ob hd=>by rw[←hB]at hd;exact Ig hd) iQ.1;exact⟨x,h4,x,rfl,_,_,_,hr,h8,Cz.only hff h5 (Mh iQ.2)⟩
    ·exact hr.elim
theorem AF{C0:dx}{T:Nat→Option FI}(hT:bp P C0.cl T)(hL:bj P C0.L)(hI:C0.I=al)(hc:CA P C0)(jh: ∀k,C0.cl k=true→vP T k=false)(tH: ∀t ks,C0.keys t=some ks→KeyLaw P t ks)(F9: ∀t ks,C0.eqs t=some ks→vJ P t ks)(hm:P.follows .mixedOrders=true): ∀{n base:Nat},Ds P (nP C0 T n base)∧Ds P {nP C0 T n base with inl:=(nP C0 T n base).B8}
 |0,_=>⟨fun _ _ {_ _ _ _ _ _ _ _ _ _} hk=>hk.elim,fun _ _ {_ _ _ _ _ _ _ _ _ _} hk=>hk.elim⟩
 |n+1,base=>by
  have a:=fun b=>AF hT hL hI hc jh tH F9 hm (n:=n) (base:=b)
  exact⟨Mv hT hL hI hc jh tH F9 hm n base a (nP C0 T (n+1) base),Mv hT hL hI hc jh tH F9 hm n base a (nP C0 T (n+1) base)⟩
 mutual
def qd:AV→Prop
  | .sl _ xs=>xs.length≤maxLen∧sd xs
  | .gs _ _ xs=>xs.length≤maxLen∧sd xs
  | .aR _ cs _=>qX cs
  | .fn _ cs=>qX cs
  | .agg cs=>qX cs
  | .gw cs=>qX cs
  |_=>True
def qX:List AV→Prop
  |[]=>True
  |a::r=>qd a∧qX r
def sd:List (List AV)→Prop
  |[]=>True
  |l::r=>qX l∧sd r
end
theorem mA: ∀{cs:List AV},(∀(q:Nat) (a:AV),cs[q]? =some a→qd a)→qX cs
 |[],_=>by simp only[qX]
 |a::r,h=>by simp only[qX];exact⟨h 0 a rfl,mA fun q b hq=>h (q+1) b (by simpa using hq)⟩
theorem zq: ∀{xs:List (List AV)},(∀(q:Nat) (a:AV),xs.flatten[q]? =some a→qd a)→sd xs
 |[],_=>by simp only[sd]
 |l::r,h=>by
  simp only[sd];refine⟨mA fun q b hq=>h q b ?_,zq fun q b hq=>h (l.length+q) b ?_⟩
  ·rw[List.flatten_cons,iq (bh.1 hq).1];exact hq
  ·rw[List.flatten_cons,ji (by omega)];simpa using hq
theorem wF{α β:Type}{l:List α}{m:List β}(h:m.length=l.length){q:Nat}{a:α}(ha:l[q]? =some a): ∃b,m[q]? =some b:=
 have aV:q<m.length:=by rw[h];exact(bh.1 ha).1
 ⟨m[q],fp aV⟩
theorem Cz.qd{a:AV}{x:Value}(h:Cz E a x):qd a:=by
 induction h with
 |sl r xs z b o c u hp hc hm dw hz hr hi hs hu hq ih=>simp only[Ab.qd];exact⟨by omega,zq ih⟩
 |gs r t xs z b c e cells u hc hm h0 dw hz hr hb dg ho er hi hu hq ih=>simp only[Ab.qd];exact⟨by omega,zq ih⟩
 |mq=>simp[Ab.qd,sd]
 |rH=>simp[Ab.qd,sd]
 |aR r cs off b o u hr hi hs hu hq ih=>simp only[Ab.qd];exact mA ih
 |fn f cap ys hl hq ih=>simp only[Ab.qd];exact mA fun q a ha=>let⟨y,hy⟩:=wF hl ha;ih q a y ha hy
 |agg cs ys hl hq ih=>simp only[Ab.qd];exact mA fun q a ha=>let⟨y,hy⟩:=wF hl ha;ih q a y ha hy
 |gw cs ys hl hq ih=>simp only[Ab.qd];exact mA fun q a ha=>let⟨y,hy⟩:=wF hl ha;ih q a y ha hy
 |_=>simp only[Ab.qd]
theorem TW{args args':List AV}(hw:wks args args'){vs:List Value}(h: ∀(q:Nat) (a:AV) (y:Value),args[q]? =some a→vs[q]? =some y→Cz E a y):
  args.length=args'.length∧ ∀(q:Nat) (a:AV) (y:Value),args'[q]? =some a→vs[q]? =some y→Cz E a y:=by
 obtain⟨h1,h2⟩:=xB hw;refine⟨h1,fun q a y ha hy=>?_⟩;obtain⟨a0,e1,e2⟩:=h2 q a ha;exact gR e2 (h q a0 y e1 hy)
 mutual
def KQ:AV→AV→Prop
  | .agg cs,.agg cs'=>wks cs cs'
  | .gw cs,.gw cs'=>NC cs cs'
  |a,b=>P0 a b
def NC:List AV→List AV→Prop
  |[],[]=>True
  |a::r,b::q=>KQ a b∧NC r q
  |_,_=>False
end
 mutual
theorem xC{x y:AV}{v:Value}(hw:KQ x y)(h:Cz E x v):Cz E y v:=by
  unfold KQ at hw
  split at hw
  ·rename_i cs cs';cases h with
   |agg _ ys hl hq=>
    obtain⟨h1,h2⟩:=TW hw hq;exact .agg cs' ys (hl.trans h1) h2
  ·rename_i cs cs';cases h with
   |gw _ ys hl hq=>
    obtain⟨h1,h2⟩:=ui hw hq;exact .gw cs' ys (hl.trans h1) h2
  ·exact gR hw h
theorem ui{args args':List AV}(hw:NC args args'){vs:List Value}(h: ∀(q:Nat) (a:AV) (y:Value),args[q]? =some a→vs[q]? =some y→Cz E a y):
   args.length=args'.length∧ ∀(q:Nat) (a:AV) (y:Value),args'[q]? =some a→vs[q]? =some y→Cz E a y:=by
  match args,args',hw with
  |[],[],_=>exact⟨rfl,fun q a y ha=>by simp at ha⟩
  |a::r,b::q,hw=>
   unfold NC at hw;cases vs with
   |nil=>
    obtain⟨h1,_⟩:=ui (args:=r) (args':=q) (vs:=[]) hw.2 (fun q a y ha hy=>by simp at hy);exact⟨by simp[h1],fun q a y ha hy=>by simp at hy⟩
   |cons v vs=>
    obtain⟨h1,h2⟩:=ui (args:=r) (args':=q) (vs:=vs) hw.2 (fun j a y ha hy=>h (j+1) a y (by simpa using ha) (by simpa using hy));refine⟨by simp[h1],fun j c y hc hy=>?_⟩;cases j with
    |zero=>simp at hc hy;subst hc;subst hy;exact xC hw.1 (h 0 a v (by simp) (by simp))
    |succ j=>exact h2 j c y (by simpa using hc) (by simpa using hy)
end
theorem lA.aq5{f:Nat}{args args':List AV}{g:Nat→Option Ob}{nx:Nat}{r:AV}{g':Nat→Option Ob}{iP:Nat}(hw:NC args args')(hi:cr args'=true)(h:lA P f args' g nx r g' iP):lA P f args g nx r g' iP:=
 fun _ E w vs hG hl hv=>by
  obtain⟨h1,h2⟩:=ui hw hv;exact h hi E w vs hG (hl.trans h1) h2
theorem TH.ao1{f:Nat}{args:List AV}{g:Nat→Option Ob}{nx:Nat}{r:AV}{g':Nat→Option Ob}{iP:Nat}(hr:bX r=true)(h:TH P f args g nx fun r1 g1 Ax=>KQ r1 r∧g1=g'∧Ax=iP):lA P f args g nx r g' iP:=
 fun hi E w vs hG hl hv=>(h hi E w vs hG hl hv).mono fun e w' ⟨r1,g1,Ax,x,E',⟨e1,e2,e3⟩,h1,h2,h3,h4,h5,h6,h7⟩=>by subst e2;subst e3;exact⟨x,E',h1,h2,h3,h4,xC e1 h5,hr,h7⟩
structure Any(P:Program)(call:pz):Prop where
 use: ∀{ρ f:Nat} {args:List AV} {g:Nat→Option Ob} {nx:Nat} {r:AV} {g':Nat→Option Ob} {iP:Nat},ov P f→lA P f args g nx r g' iP→call ρ f args g nx r g' iP
def post(C:dx)(rs:List ResultVar)(R:AV→(Nat→Option Ob)→Nat→Prop)(e:Ex)(s:St):Prop:=
 match e with
 | .normal=>G6 C rs s R
 | .ret=>G6 C rs s R
 |_=>False
theorem S3{P:Program}{L:nK}(hL:bj P L)(hm:P.follows .mixedOrders=true){f:Nat}{fn:Func}{c:Code}(hf:P.funcs[f]? =some fn)(hb:fn.body=some c){args:List AV}{g:Nat→Option Ob}{nx:Nat}
  {R:AV→(Nat→Option Ob)→Nat→Prop}(fl:Bool)(ρ:Nat)(sh:List Nat)(tree:Nat→Tree)(dead:Nat→List Nat)(op:List Nat)(cl:Nat→Bool){keys eqs:Nat→Option (List VK)}(tH: ∀t ks,keys t=some ks→KeyLaw P t ks)(F9: ∀t ks,eqs t=some ks→vJ P t ks){T:Nat→Option FI}(hT:bp P cl T)(jh: ∀k,cl k=true→vP T k=false)(fuel:Nat)(hd:cB cl tree c=true)(n:Nat)(hn:fn.ntmps=n)(Im:mM args.length n=true){rs:List ResultVar}(W0:fn.results.toList=rs)
  (hk: ∀(I:Pr) (call:pz),I=al→Any P call→qX args→qA (nP {I:=I,L:=L,ρ:=ρ,sh:=sh,tree:=tree,call:=call,op:=op,dead:=dead,cl:=cl,keys:=keys,eqs:=eqs} T fuel 0) c (init n args g nx fl) (post (nP {I:=I,L:=L,ρ:=ρ,sh:=sh,tree:=tree,call:=call,op:=op,dead:=dead,cl:=cl,keys:=keys,eqs:=eqs} T fuel 0) rs R)):vq P fl f args g nx R:=by
 subst hn;subst W0;let call:pz:=fun ρ f args g nx r g' iP=>ov P f∧lA P f args g nx r g' iP;intro hi E w vs hG fS hl hv;have hc:CA P {I:=al,L:=L,ρ:=ρ,sh:=sh,tree:=tree,call:=call,op:=op,dead:=dead,cl:=cl,keys:=keys,eqs:=eqs}:=fun _ _ _ _ _ _ _ _ h=>h
 have hCR:=AF hT (C0:={I:=al,L:=L,ρ:=ρ,sh:=sh,tree:=tree,call:=call,op:=op,dead:=dead,cl:=cl,keys:=keys,eqs:=eqs}) hL rfl hc jh tH F9 hm (n:=fuel) (base:=0)
 obtain⟨hC,hCR⟩:=hCR;obtain⟨m1,m2,m3,m4,m5⟩:=Qr (C0:={I:=al,L:=L,ρ:=ρ,sh:=sh,tree:=tree,call:=call,op:=op,dead:=dead,cl:=cl,keys:=keys,eqs:=eqs}) (T:=T) (n:=fuel) (base:=0);have ok':Ok P (nP {I:=al,L:=L,ρ:=ρ,sh:=sh,tree:=tree,call:=call,op:=op,dead:=dead,cl:=cl,keys:=keys,eqs:=eqs} T fuel 0):=
  ⟨by rw[m1];exact hL,m2,fun ρ f args g nx r g' iP hh=>hc ρ f args g nx r g' iP (by rw[m3]at hh;exact hh),hC,hCR,OW,fun k hk=>by rw[m5];rw[m4]at hk;exact jh k hk,
   fun t ks hk=>by rw[(CY (T:=T) (n:=fuel) (base:=0)).1]at hk;exact tH t ks hk,fun t ks hk=>by rw[(CY (T:=T) (n:=fuel) (base:=0)).2]at hk;exact F9 t ks hk⟩
 have Ng:(nP {I:=al,L:=L,ρ:=ρ,sh:=sh,tree:=tree,call:=call,op:=op,dead:=dead,cl:=cl,keys:=keys,eqs:=eqs} T fuel 0).tree=tree:=by cases fuel<;>rfl
 refine vq.of ok' hm hf hb (by rw[Ng,m4];exact hd) (FT Im) fl ?_ hi E w vs hG fS hl hv;exact hk al call rfl ⟨fun h1 h2=>⟨h1,h2⟩⟩ (mA fun q a ha=>let⟨y,hy⟩:=wF hl ha;(hv q a y ha hy).qd)
theorem X3{P:Program}{L:nK}(hL:bj P L)(hm:P.follows .mixedOrders=true){f:Nat}{fn:Func}{c:Code}(hf:P.funcs[f]? =some fn)(hb:fn.body=some c){args:List AV}{g:Nat→Option Ob}{nx:Nat}
  {R:AV→(Nat→Option Ob)→Nat→Prop}(ρ:Nat)(sh:List Nat)(tree:Nat→Tree)(dead:Nat→List Nat)(op:List Nat)(cl:Nat→Bool){keys eqs:Nat→Option (List VK)}(tH: ∀t ks,keys t=some ks→KeyLaw P t ks)(F9: ∀t ks,eqs t=some ks→vJ P t ks){T:Nat→Option FI}(hT:bp P cl T)(jh: ∀k,cl k=true→vP T k=false)(fuel:Nat)(hd:cB cl tree c=true)(n:Nat)(hn:fn.ntmps=n)(Im:mM args.length n=true){rs:List ResultVar}(W0:fn.results.toList=rs)
  (hk: ∀(I:Pr) (call:pz),I=al→Any P call→qX args→qA (nP {I:=I,L:=L,ρ:=ρ,sh:=sh,tree:=tree,call:=call,op:=op,dead:=dead,cl:=cl,keys:=keys,eqs:=eqs} T fuel 0) c (init n args g nx) (post (nP {I:=I,L:=L,ρ:=ρ,sh:=sh,tree:=tree,call:=call,op:=op,dead:=dead,cl:=cl,keys:=keys,eqs:=eqs} T fuel 0) rs R)):TH P f args g nx R:=by
 subst hn;subst W0;let call:pz:=fun ρ f args g nx r g' iP=>ov P f∧lA P f args g nx r g' iP;intro hi E w vs hG hl hv;have hc:CA P {I:=al,L:=L,ρ:=ρ,sh:=sh,tree:=tree,call:=call,op:=op,dead:=dead,cl:=cl,keys:=keys,eqs:=eqs}:=fun _ _ _ _ _ _ _ _ h=>h
 have hCR:=AF hT (C0:={I:=al,L:=L,ρ:=ρ,sh:=sh,tree:=tree,call:=call,op:=op,dead:=dead,cl:=cl,keys:=keys,eqs:=eqs}) hL rfl hc jh tH F9 hm (n:=fuel) (base:=0)
 obtain⟨hC,hCR⟩:=hCR;obtain⟨m1,m2,m3,m4,m5⟩:=Qr (C0:={I:=al,L:=L,ρ:=ρ,sh:=sh,tree:=tree,call:=call,op:=op,dead:=dead,cl:=cl,keys:=keys,eqs:=eqs}) (T:=T) (n:=fuel) (base:=0);have ok':Ok P (nP {I:=al,L:=L,ρ:=ρ,sh:=sh,tree:=tree,call:=call,op:=op,dead:=dead,cl:=cl,keys:=keys,eqs:=eqs} T fuel 0):=
  ⟨by rw[m1];exact hL,m2,fun ρ f args g nx r g' iP hh=>hc ρ f args g nx r g' iP (by rw[m3]at hh;exact hh),hC,hCR,OW,fun k hk=>by rw[m5];rw[m4]at hk;exact jh k hk,
   fun t ks hk=>by rw[(CY (T:=T) (n:=fuel) (base:=0)).1]at hk;exact tH t ks hk,fun t ks hk=>by rw[(CY (T:=T) (n:=fuel) (base:=0)).2]at hk;exact F9 t ks hk⟩
 have Ng:(nP {I:=al,L:=L,ρ:=ρ,sh:=sh,tree:=tree,call:=call,op:=op,dead:=dead,cl:=cl,keys:=keys,eqs:=eqs} T fuel 0).tree=tree:=by cases fuel<;>rfl
 refine TH.of ok' hm hf hb (by rw[Ng,m4];exact hd) (FT Im) ?_ hi E w vs hG hl hv;exact hk al call rfl ⟨fun h1 h2=>⟨h1,h2⟩⟩ (mA fun q a ha=>let⟨y,hy⟩:=wF hl ha;(hv q a y ha hy).qd)
theorem sX(P:Program)(cl:Nat→Bool):bp P cl (fun _=>none):=fun k fi h=>by cases h
end Ab
namespace Ab
open Go
variable{kp:Prop}{P:Program}{L:nK}{E0 E E':Env}{w0 w w':World}{s s':St}{a:Act}{p:Path}{C:dx}
structure ly(E:Env)(r:Nat)(w w':World):Prop where
 same:jk w w'
 size:E.h.size≤w'.heap.size
 cells: ∀b,b<E.h.size→w'.heap[b]? =E.h[b]? ∨ ∃c c' e,E.h[b]? =some (.cells c e (0,0))∧w'.heap[b]? =some (.cells c' e (0,0))∧c'.size=c.size∧ ∀o,¬(E.aI b o∧E.dN b=r)→c'[o]? =c[o]?
def Env.dI(E:Env)(r:Nat)(kp:Prop)(w':World):Env:={E with h:=w'.heap,aI:=fun b o=>E.aI b o∧(kp∨E.dN b≠r)}
theorem ly.cell{r:Nat}(k:ly E r w w'){b o:Nat}(hb:b<E.h.size)(h: ¬(E.aI b o∧E.dN b=r)):aO w'.heap b o=aO E.h b o:=by
 rcases k.cells b hb with h1|⟨c,c',e,h1,h2,h3,h4⟩
 ·unfold aO;rw[h1]
 ·unfold aO;rw[h1,h2];exact h4 o h
theorem ly.block{r:Nat}(k:ly E r w w'){b:Nat}(hb:b<E.h.size)(h: ∀o,¬(E.aI b o∧E.dN b=r)):w'.heap[b]? =E.h[b]? :=by
 rcases k.cells b hb with h1|⟨c,c',e,h1,h2,h3,h4⟩
 ·exact h1
 ·have:c'=c:=by
   apply Array.ext h3;intro i hi1 hi2;have:=h4 i (h i)
   rw[Array.getElem?_eq_getElem hi1,Array.getElem?_eq_getElem hi2]at this;exact oJ this
  rw[h1,h2,this]
theorem oD{r:Nat}: ∀{cs:List AV},Em r cs→ ∀(q:Nat) (a:AV),cs[q]? =some a→uc r a
 |[],_,q,a,h=>by simp at h
 |x::l,h,q,a,hq=>by
  simp only[Em]at h;cases q with
  |zero=>simp at hq;subst hq;exact h.1
  |succ q=>exact oD h.2 q a (by simpa using hq)
theorem lO{r:Nat}: ∀{xs:List (List AV)},pC r xs→ ∀(q:Nat) (a:AV),xs.flatten[q]? =some a→uc r a
 |[],_,q,a,h=>by simp at h
 |x::l,h,q,a,hq=>by
  simp only[pC]at h;rw[List.flatten_cons]at hq;by_cases aV:q<x.length
  ·rw[iq aV]at hq;exact oD h.1 q a hq
  ·rw[ji (by omega)]at hq;exact lO h.2 _ a hq
theorem OP{r:Nat}: ∀{cs:List AV},(∀a∈cs,uc r a)→Em r cs
 |[],_=>by simp only[Em]
 |x::l,h=>by simp only[Em];exact⟨h x (by simp),OP fun a ha=>h a (by simp[ha])⟩
theorem AA{r:Nat}: ∀{xs:List (List AV)},(∀l∈xs,Em r l)→pC r xs
 |[],_=>by simp only[pC]
 |x::l,h=>by simp only[pC];exact⟨h x (by simp),AA fun a ha=>h a (by simp[ha])⟩
theorem Cz.dI{r:Nat}(k:ly E r w w')(hw:Wf E){av:AV}{x:Value}(h:Cz E av x):uc r av→Cz (E.dI r kp w') av x:=by
 induction h with
 |any x=>exact fun _=> .any _
 |v x=>exact fun _=> .v _
 |mq q A c=>exact fun _=> .mq _ _ _
 |sl q xs z b o c u hp hc hm dw hz hr hi hs hu hq ih=>
  intro hn;simp only[uc]at hn;have hb: ∀o',E.aI b o'→ ¬(E.aI b o'∧E.dN b=r):=fun o' _ hh=>hn.1 (hr.symm.trans hh.2)
  exact .sl q xs z b o c u hp hc hm dw hz hr hi (fun i a ha=>⟨hs i a ha,.inr fun e=>hn.1 (hr.symm.trans e)⟩) (fun i a ha=>(k.cell (hw.aI _ _ (hs i a ha)) (hb _ (hs i a ha))).trans (hu i a ha)) (fun i a ha=>ih i a ha (lO hn.2 i a ha))
 |rH q t=>exact fun _=> .rH _ _
 |gs q t xs z b c e cells u hc hm h0 dw hz hr hb dg ho er hi hu hq ih=>
  intro hn;simp only[uc]at hn;have ct:E.dN b≠r:=fun e=>hn.1 (hr.symm.trans e)
  have aV:b<E.h.size:=(Array.getElem?_eq_some_iff.1 hb).1
  have AS:=k.block aV fun o hh=>ct hh.2
  exact .gs q t xs z b c e cells u hc hm h0 dw hz hr (by show w'.heap[b]? =_;rw[AS];exact hb) dg ho (fun o=>⟨fun hh=>(er o).1 hh.1,fun hh=>⟨(er o).2 hh,.inr ct⟩⟩) hi (fun i a ha=>by
   show aO w'.heap b (0+i)=_;rw[k.cell aV fun hh=>ct hh.2];exact hu i a ha) (fun i a ha=>ih i a ha (lO hn.2 i a ha))
 |aR q cs off b o u hr hi hs hu hq ih=>
  intro hn;simp only[uc]at hn;exact .aR q cs off b o u hr hi (fun i a ha=>⟨hs i a ha,.inr fun e=>hn.1 ((hr i a ha).symm.trans e)⟩) (fun i a ha=>(k.cell (hw.aI _ _ (hs i a ha)) fun hh=>hn.1 ((hr i a ha).symm.trans hh.2)).trans (hu i a ha)) (fun i a ha=>ih i a ha (oD hn.2 i a ha))
 |ptr k' off hl=>exact fun _=>Cz.ptr (E:=E.dI r kp w') k' off hl
 |eW k' n hl hn hc hm=>exact fun _=>Cz.eW (E:=E.dI r kp w') k' n hl hn hc hm
 |ca k' i off z hl=>exact fun _=>Cz.ca (E:=E.dI r kp w') k' i off z hl
 |mp k' hl=>exact fun _=>Cz.mp (E:=E.dI r kp w') k' hl
 |nM k' hl=>exact fun _=>Cz.nM (E:=E.dI r kp w') k' hl
 |ar n z xs ys hn hz hl hi hq ih=>intro h;simp only[uc]at h;exact .ar n z xs ys hn hz hl hi fun q a y ha hy=>ih q a y ha hy (lO h q a ha)
 |fn f cs ys hl hq ih=>intro h;simp only[uc]at h;exact .fn f cs ys hl fun q a y ha hy=>ih q a y ha hy (oD h q a ha)
 |bm f cs ys hl hi hq ih=>intro h;simp only[uc]at h;exact .bm f cs ys hl hi fun q a y ha hy=>ih q a y ha hy (oD h q a ha)
 |lB q z xs x hz h ih=>
  intro hn;simp only[uc]at hn;refine .lB q z xs x hz (ih ?_);simp only[uc];refine⟨hn.1,?_⟩;exact OP fun a ha=>by obtain⟨i,hi⟩:=List.getElem?_of_mem ha;exact lO hn.2 i a hi
 |agg cs ys hl hq ih=>intro h;simp only[uc]at h;exact .agg cs ys hl fun q a y ha hy=>ih q a y ha hy (oD h q a ha)
 |gw cs ys hl hq ih=>intro h;simp only[uc]at h;exact .gw cs ys hl fun q a y ha hy=>ih q a y ha hy (oD h q a ha)
 mutual
def qe(r:Nat):AV→AV
  | .sl q xs=>bif bQ q r then .any else .sl q xs
  | .gs q t xs=>bif bQ q r then .any else .gs q t xs
  | .aR q cs o=>bif bQ q r then .any else .aR q cs o
  | .lB q z xs=>bif bQ q r then .any else .lB q z xs
  | .agg cs=> .agg (uO r cs)
  | .gw cs=> .gw (uO r cs)
  |a=>a
def uO(r:Nat):List AV→List AV
  |[]=>[]
  |a::l=>qe r a::uO r l
end
 mutual
def Qj(I:Pr)(r:Nat):AV→Prop
  | .sl q xs=>bif bQ q r then True else I.nr r xs
  | .gs q _ xs=>bif bQ q r then True else I.nr r xs
  | .aR q cs _=>bif bQ q r then True else I.nr r [cs]
  | .lB q _ xs=>bif bQ q r then True else I.nr r xs
  | .ar _ _ xs=>I.nr r xs
  | .fn _ cs=>I.nr r [cs]
  | .bm _ cs=>I.nr r [cs]
  | .agg cs=>Sg I r cs
  | .gw cs=>Sg I r cs
  |_=>True
def Sg(I:Pr)(r:Nat):List AV→Prop
  |[]=>True
  |a::l=>Qj I r a∧Sg I r l
end
def C4(r:Nat):List (Nat×AV)→List (Nat×AV)
 |[]=>[]
 |(d,a)::l=>(d,qe r a)::C4 r l
def nrT(I:Pr)(r:Nat):List (Nat×AV)→Prop
 |[]=>True
 |(_,a)::l=>Qj I r a∧nrT I r l
def Qx(r:Nat):Ob→Ob
 | .box cs=> .box (uO r cs)
 | .lp n t ps nX body st=> .lp n (C4 r t) ps nX body st
 |o=>o
def nrO(I:Pr)(r:Nat):Ob→Prop
 | .box cs=>Sg I r cs
 | .arr _ xs=>I.nr r xs
 | .ow _ _ xs=>I.nr r xs
 | .lp _ t _ _ _ _=>nrT I r t
def Ib(r:Nat):List (Nat×Ob)→List (Nat×Ob)
 |[]=>[]
 |(d,o)::l=>(d,Qx r o)::Ib r l
def nrB(I:Pr)(r:Nat):List (Nat×Ob)→Prop
 |[]=>True
 |(_,o)::l=>nrO I r o∧nrB I r l
def WM(r:Nat):List Fr→List Fr
 |[]=>[]
 |f::l=>{n:=f.n,t:=C4 r f.t}::WM r l
def nrU(I:Pr)(r:Nat):List Fr→Prop
 |[]=>True
 |f::l=>nrT I r f.t∧nrU I r l
def adJ(r:Nat)(s:St):St:={s with t:=C4 r s.t,b:=Ib r s.b,up:=WM r s.up}
def WO(Q:AV→Prop)(I:Pr)(args:List AV)(s:St)(K:bd):Prop:=
 match args with
 |[.agg [.sl r xs]]=>bif mM 1000000 r&&s.fl then(Q (.agg [.sl r xs])∧(s.c=[]∧ ∀i,s.g i=none)∧nrT I r s.t∧nrB I r s.b∧nrU I r s.up)∧K (.gw []) (adJ r s)else False
 |_=>False
theorem uN(r:Nat): ∀(cs:List AV) (q:Nat),(uO r cs)[q]? =(cs[q]?).map (qe r)
 |[],q=>by simp[uO]
 |a::l,q=>by cases q<;>simp[uO,uN r l]
theorem uM(r:Nat): ∀(cs:List AV),(uO r cs).length=cs.length
 |[]=>rfl
 |a::l=>by simp[uO,uM r l]
theorem Az{I:Pr}{r:Nat}: ∀{cs:List AV},Sg I r cs→ ∀(q:Nat) (a:AV),cs[q]? =some a→Qj I r a
 |[],_,q,a,h=>by simp at h
 |x::l,h,q,a,hq=>by
  simp only[Sg]at h;cases q with
  |zero=>simp at hq;subst hq;exact h.1
  |succ q=>exact Az h.2 q a (by simpa using hq)
theorem Cz.WN{r:Nat}(k:ly E r w w')(hw:Wf E){av:AV}{x:Value}(h:Cz E av x):Qj al r av→Cz (E.dI r kp w') (qe r av) x:=by
 have one: ∀{q:Nat} {xs:List (List AV)},(bif bQ q r then True else al.nr r xs)→bQ q r=false→q≠r∧pC r xs:=fun{q xs} h hq=>by
  rw[hq,aM]at h;exact⟨fun e=>by subst e;simp at hq,h⟩
 induction h with
 |sl q xs z b o c u hp hc hm dw hz hr hi hs hu hq ih=>
  intro hn;simp only[Qj]at hn;simp only[qe];cases he:bQ q r with
  |true=>exact .any _
  |false=>exact Cz.dI k hw (.sl q xs z b o c u hp hc hm dw hz hr hi hs hu hq) (by simp only[aM,uc];exact one hn he)
 |mq q A c=>
  intro _;simp only[qe];cases bQ q r with
  |true=>exact .any _
  |false=>exact .mq _ _ _
 |rH q t=>
  intro _;simp only[qe];cases bQ q r with
  |true=>exact .any _
  |false=>exact .rH _ _
 |gs q t xs z b c e cells u hc hm h0 dw hz hr hb dg ho er hi hu hq ih=>
  intro hn;simp only[Qj]at hn;simp only[qe];cases he:bQ q r with
  |true=>exact .any _
  |false=>exact Cz.dI k hw (.gs q t xs z b c e cells u hc hm h0 dw hz hr hb dg ho er hi hu hq) (by simp only[aM,uc];exact one hn he)
 |aR q cs off b o u hr hi hs hu hq ih=>
  intro hn;simp only[Qj]at hn;simp only[qe];cases he:bQ q r with
  |true=>exact .any _
  |false=>
   have:=one hn he
   simp only[pC]at this;exact Cz.dI k hw (.aR q cs off b o u hr hi hs hu hq) (by simp only[aM,uc];exact⟨this.1,this.2.1⟩)
 |lB q z xs x hz h ih=>
  intro hn;simp only[Qj]at hn;simp only[qe];cases he:bQ q r with
  |true=>exact .any _
  |false=>exact Cz.dI k hw (.lB q z xs x hz h) (by simp only[aM,uc];exact one hn he)
 |ar n z xs ys hn hz hl hi hq ih=>
  intro h;simp only[Qj]at h;exact Cz.dI k hw (.ar n z xs ys hn hz hl hi hq) (by simp only[qe,uc];exact h)
 |fn f cs ys hl hq ih=>
  intro h;simp only[Qj]at h;have h:pC r [cs]:=h
  simp only[pC]at h;exact Cz.dI k hw (.fn f cs ys hl hq) (by simp only[qe,uc];exact h.1)
 |bm f cs ys hl hi hq ih=>
  intro h;simp only[Qj]at h;have h:pC r [cs]:=h
  simp only[pC]at h;exact Cz.dI k hw (.bm f cs ys hl hi hq) (by simp only[qe,uc];exact h.1)
 |agg cs ys hl hq ih=>
  intro h;simp only[Qj]at h;simp only[qe];refine .agg _ ys (by rw[uM];exact hl) fun q a y ha hy=>?_;rw[uN]at ha;cases hc:cs[q]? with
  |none=>rw[hc]at ha;cases ha
  |some a0=>rw[hc]at ha;cases ha;exact ih q a0 y hc hy (Az h q a0 hc)
 |gw cs ys hl hq ih=>
  intro h;simp only[Qj]at h;simp only[qe];refine .gw _ ys (by rw[uM];exact hl) fun q a y ha hy=>?_;rw[uN]at ha;cases hc:cs[q]? with
  |none=>rw[hc]at ha;cases ha
  |some a0=>rw[hc]at ha;cases ha;exact ih q a0 y hc hy (Az h q a0 hc)
 |any x=>exact fun _=> .any _
 |v x=>exact fun _=> .v _
 |ptr k' off hl=>exact fun _=>Cz.ptr (E:=E.dI r kp w') k' off hl
 |eW k' n hl hn hc hm=>exact fun _=>Cz.eW (E:=E.dI r kp w') k' n hl hn hc hm
 |ca k' i off z hl=>exact fun _=>Cz.ca (E:=E.dI r kp w') k' i off z hl
 |mp k' hl=>exact fun _=>Cz.mp (E:=E.dI r kp w') k' hl
 |nM k' hl=>exact fun _=>Cz.nM (E:=E.dI r kp w') k' hl
theorem zn{r d:Nat}: ∀{t:List (Nat×AV)},look d (C4 r t)=(look d t).map (qe r)
 |[]=>rfl
 |(k,a)::l=>by
  simp only[C4,aC]
  split
  ·rfl
  ·exact zn
theorem zo{r d:Nat}: ∀{b:List (Nat×Ob)},look d (Ib r b)=(look d b).map (Qx r)
 |[]=>rfl
 |(k,o)::l=>by
  simp only[Ib,aC]
  split
  ·rfl
  ·exact zo
theorem JW{I:Pr}{r d:Nat}{a:AV}: ∀{t:List (Nat×AV)},nrT I r t→look d t=some a→Qj I r a
 |[],_,h=>by cases h
 |(k,x)::l,h,hd=>by
  simp only[nrT]at h;rw[aC]at hd
  split at hd
  ·cases hd;exact h.1
  ·exact JW h.2 hd
theorem Qk{I:Pr}{r d:Nat}{o:Ob}: ∀{b:List (Nat×Ob)},nrB I r b→look d b=some o→nrO I r o
 |[],_,h=>by cases h
 |(k,x)::l,h,hd=>by
  simp only[nrB]at h;rw[aC]at hd
  split at hd
  ·cases hd;exact h.1
  ·exact Qk h.2 hd
theorem CK{r:Nat}(k:ly E r w w')(hw:Wf E){t:List (Nat×AV)}(hn:nrT al r t){T:Array Value}(h: ∀d x,look d t=some x→Cz E x (T.getD d undef)): ∀d x,look d (C4 r t)=some x→Cz (E.dI r kp w') x (T.getD d undef):=fun d x hd=>by
 rw[zn]at hd;cases hl:look d t with
 |none=>rw[hl]at hd;cases hd
 |some y=>rw[hl]at hd;cases hd;exact(h d y hl).WN k hw (JW hn hl)
theorem jP.dI{r:Nat}(k:ly E r w w')(hw:Wf E): ∀{aa:List Act} {fs:List Fr},nrU al r fs→jP E aa fs→jP (E.dI r kp w') aa (WM r fs)
 |[],[],_,_=>trivial
 |a::aa,f::fs,hn,h=>by
  simp only[nrU]at hn;exact⟨⟨h.1.1,CK k hw hn.1 h.1.2⟩,jP.dI k hw hn.2 h.2⟩
 |[],_::_,_,h=>h.elim
 |_::_,[],_,h=>h.elim
theorem Wc{r:Nat}(k:ly E r w w')(hw:Wf E){d:Nat}{o:Ob}(hn:nrO al r o)(h:bM E (.s d) o):bM (E.dI r kp w') (.s d) (Qx r o):=by
 cases o with
 |box cs=>
  obtain⟨h1,c,e,h2,h3,h4,h5,h6⟩:=h;have aV:E.m (.s d)<E.h.size:=(Array.getElem?_eq_some_iff.1 h2).1
  refine⟨h1,c,e,by show w'.heap[E.m (.s d)]? =_;rw[k.block aV fun o hh=>h4 o hh.1];exact h2,h3,fun o hh=>h4 o hh.1,by rw[uM];exact h5,fun q a x ha hx=>?_⟩;rw[uN]at ha;cases hc:cs[q]? with
  |none=>rw[hc]at ha;cases ha
  |some a0=>rw[hc]at ha;cases ha;exact(h6 q a0 x hc hx).WN k hw (Az hn q a0 hc)
 |arr z xs=>
  obtain⟨h1,h2,h3,h4,h5,c,e,h6,h7,h8,h9,By,Kg⟩:=h;have aV:E.m (.s d)<E.h.size:=(Array.getElem?_eq_some_iff.1 h6).1
  exact⟨h1,h2,h3,h4,h5,c,e,by show w'.heap[E.m (.s d)]? =_;rw[k.block aV fun o hh=>h8 o hh.1];exact h6,h7,fun o hh=>h8 o hh.1,h9,By,fun q a x ha hx=>(Kg q a x ha hx).dI k hw (lO hn q a ha)⟩
 |ow p rD xs=>
  obtain⟨h1,h2,h3,h4,u,h5,h6,h7,h8⟩:=h;have aV:E.m (.s d)<E.h.size:=hw.own _ (by rw[h2];simp)
  have AS:w'.heap[E.m (.s d)]? =E.h[E.m (.s d)]? :=k.block aV fun o hh=>h3 o hh.1
  refine⟨h1,h2,fun o hh=>h3 o hh.1,h4,u,?_,fun q a ha=>(h6 q a ha).dI k hw (lO hn q a ha),?_,h8⟩
  ·show sS _ _ p _ w'.heap[E.m (.s d)]? xs u;rw[AS];exact sS.adB (E:=E) (E':=E.dI r kp w') (fun i hi=>⟨hi,rfl,rfl⟩) (fun b ho hb hs=>⟨ho,k.block hb (fun o hh=>hs o hh.1),fun o hh=>hs o hh.1⟩) h5
  ·intro q r' ys hq hl;have hnr:=lO hn q _ hq
   simp only[uc]at hnr;rcases h7 q r' ys hq hl with hh|⟨z,b,c,e,cells,g1,g2,g3,g4,g5,g6,g7,g8,g9,Xz,g11⟩
   ·exact .inl hh
   ·have ct:E.dN b≠r:=fun e=>hnr.1 (g7.symm.trans e)
    exact .inr ⟨z,b,c,e,cells,g1,g2,g3,g4,g5,g6,g7,by show w'.heap[b]? =_;rw[k.block (Array.getElem?_eq_some_iff.1 g8).1 fun o hh=>ct hh.2];exact g8,g9,Xz,fun o=>⟨fun hh=>(g11 o).1 hh.1,fun hh=>⟨(g11 o).2 hh,.inr ct⟩⟩⟩
 |lp n t ps nX body st=>
  obtain⟨h1,h2,h3,rec,h4,h5,h6,h7,h8,h9,By,Kg⟩:=h;have aV:E.m (.s d)<E.h.size:=(Array.getElem?_eq_some_iff.1 h4).1
  exact⟨h1,h2,fun o hh=>h3 o hh.1,rec,by show w'.heap[E.m (.s d)]? =_;rw[k.block aV fun o hh=>h3 o hh.1];exact h4,h5,h6,h7,h8,h9,By,CK k hw hn Kg⟩
theorem ly.other{r b:Nat}(k:ly E r w w'){x:Obj}(h:E.h[b]? =some x)(hx: ∀c e q,x≠ .cells c e q):w'.heap[b]? =some x:=by
 rcases k.cells b (Array.getElem?_eq_some_iff.1 h).1 with h1|⟨c,c',e,h1,_⟩
 ·exact h1.trans h
 ·rw[h]at h1;cases h1;exact absurd rfl (hx _ _ _)
theorem bq.dI(h:bq E0 E w0 w s a){r:Nat}(k:ly E r w w')(hr:1000000≤r)(fS:s.fl=true)(hc:s.c=[])(hg: ∀i,s.g i=none)(ht:nrT al r s.t)(hb:nrB al r s.b)(hu:nrU al r s.up):bq E0 (E.dI r kp w') w0 w' (adJ r s) a:=by
 have low: ∀b o,b<E0.h.size→ ¬(E.aI b o∧E.dN b=r):=fun b o aV hh=>by
  have h1:=h.ext.bw b aV (h.lo fS b).1
  have h2:=(h.lo fS b).2 o ((h1.2.2.1 o).1 hh.1)
  rw[←h1.2.2.2,hh.2]at h2;omega
 have am2: ∀b o,E0.aI b o→ ¬(E.dN b=r):=fun b o hs he=>by
  have h2:=(h.lo fS b).2 o hs
  have h3:=(h.ext.aI b o hs).2.2
  omega
 refine⟨rfl,⟨fun b o hh=>Nat.lt_of_lt_of_le (h.wf.aI b o hh.1) k.size,fun b hh=>Nat.lt_of_lt_of_le (h.wf.own b hh) k.size,fun b o hh hq=>?_⟩,?_,jP.dI k h.wf hu h.up,h.sz,fun d x hd hp=>?_,fun d q hd=>?_,fun d ob hd=>?_,fun d hl=>?_,fun i ob hi=>?_,h.gl,⟨Nat.le_trans h.ext.size k.size,fun b o hs=>⟨⟨(h.ext.aI b o hs).1,.inr (am2 b o hs)⟩,?_,(h.ext.aI b o hs).2.2⟩,h.ext.live,fun b aV hn=>?_⟩,h.wI,h.same.trans k.same,h.gk,h.nl,h.ng,h.lo⟩
 ·obtain⟨c,e,h1⟩:=h.wf.fz b o hh.1 hq;rcases k.cells b (Array.getElem?_eq_some_iff.1 h1).1 with h2|⟨c1,c',e1,h2,h3,_⟩
  ·exact⟨c,e,h2.trans h1⟩
  ·exact⟨c',e1,h3⟩
 ·obtain⟨Bs,h1,h2,h3⟩:=h.Kp;refine⟨Bs,h1,h2,fun B hB=>?_⟩;obtain⟨g1,g2,g3⟩:=h3 B hB;exact⟨k.other g1 (fun _ _ _ e=>by cases e),g2,g3⟩
 ·have nN:look d (C4 r s.t)=some x:=hd
  rw[zn]at nN;cases hl:look d s.t with
  |none=>rw[hl]at nN;cases nN
  |some y=>
   rw[hl]at nN;cases nN;exact(h.tm d y hl (by rw[eP,hc];exact trivial)).WN k h.wf (JW ht hl)
 ·have nN:look d s.c=some q:=hd
  rw[hc]at nN;cases nN
 ·have nN:look d (Ib r s.b)=some ob:=hd
  rw[zo]at nN;cases hl:look d s.b with
  |none=>rw[hl]at nN;cases nN
  |some y=>rw[hl]at nN;cases nN;exact Wc k h.wf (Qk hb hl) (h.bx d y hl)
 ·obtain⟨ob,ho⟩:=h.lv d hl;exact⟨Qx r ob,by show look d (Ib r s.b)=_;rw[zo,ho];rfl⟩
 ·have:s.g i=some ob:=hi
  rw[hg i]at this;cases this
 ·show aO w'.heap b o=_;rw[k.cell (h.wf.aI b o (h.ext.aI b o hs).1) fun hh=>am2 b o hs hh.2];exact(h.ext.aI b o hs).2.1
 ·obtain⟨g1,g2,g3,g4⟩:=h.ext.bw b aV hn;refine⟨g1,?_,fun o=>⟨fun hh=>(g3 o).1 hh.1,fun hh=>⟨(g3 o).2 hh,.inr fun he=>low b o aV ⟨(g3 o).2 hh,he⟩⟩⟩,g4⟩;show w'.heap[b]? =_;rw[k.block (Nat.lt_of_lt_of_le aV h.ext.size) fun o=>low b o aV];exact g2
def MZ(P:Program)(f:Nat)(Q:AV→Prop):Prop:=
 ∀(E:Env) (w:World) (r:Nat) (xs:List (List AV)) (x:Value),Q (.agg [.sl r xs])→1000000≤r→w.heap=E.h→Wf E→Cz E (.agg [.sl r xs]) x→
  Calls P f #[x] w fun e w'=>e= .returned (.tuple #[])∧ly E r w w'
theorem aa8{f:Nat}{Q:AV→Prop}(he:ov P f)(hs:MZ P f Q):Ys P f (WO Q):=by
 refine⟨he,fun{args s K E0 E w0 w a vs} hH h hl hv=>?_⟩;unfold WO at hH
 split at hH
 ·rename_i r xs;cases hb:mM 1000000 r&&s.fl with
  |false=>rw[hb]at hH;exact hH.elim
  |true=>
   rw[hb,aE]at hH;simp only[Bool.and_eq_true]at hb;obtain⟨⟨q0,⟨q1,q2⟩,q3,q4,q5⟩,hK⟩:=hH
   match vs,hl with
   |[x],_=>
    refine(hs E w r xs x q0 (FT hb.1) h.heap h.wf (hv 0 _ x rfl rfl)).mono fun e w' ⟨h1,h2⟩=>?_;exact⟨_,h1,_,_,E.dI r False w',hK,h.dI h2 (FT hb.1) hb.2 q1 q2 q3 q4 q5,.gw [] [] rfl fun q a y ha=>by simp at ha⟩
 ·exact hH.elim
end Ab
namespace Ab
open Go
variable{P:Program}{L:nK}{E:Env}{w0 w w':World}{r:Nat}
def zk:Value→Value
 | .int k _=> .int k 0
 | .string _=> .string ⟨#[]⟩
 | .bool _=> .bool false
 | .slice _ _ _=> .slice none 0 0
 |v=>v
structure gH(E:Env)(r:Nat)(w0 w:World):Prop where
 same:jk w0 w
 size:E.h.size≤w.heap.size
 cells: ∀b,b<E.h.size→w.heap[b]? =E.h[b]? ∨ ∃c c' e,E.h[b]? =some (.cells c e (0,0))∧w.heap[b]? =some (.cells c' e (0,0))∧c'.size=c.size∧
  ∀o,c'[o]? =c[o]? ∨(E.aI b o∧E.dN b=r)∧ ∃u,c[o]? =some u∧c'[o]? =some (zk u)
theorem gH.spoilt(h:gH E r w0 w):ly E r w0 w:=
 ⟨h.same,h.size,fun b hb=>(h.cells b hb).imp id fun⟨c,c',e,h1,h2,h3,h4⟩=>⟨c,c',e,h1,h2,h3,fun o ho=>(h4 o).resolve_right fun hh=>ho hh.1⟩⟩
theorem gH.refl(h:w.heap=E.h):gH E r w w:=⟨.refl _,by rw[h];exact Nat.le_refl _,fun b _=> .inl (by rw[h])⟩
theorem gH.get(h:gH E r w0 w)(hw:Wf E){b o:Nat}{u:Value}(hs:E.aI b o)(hu:aO E.h b o=some u):aO w.heap b o=some u∨aO w.heap b o=some (zk u):=by
 rcases h.cells b (hw.aI b o hs)with h1|⟨c,c',e,h1,h2,h3,h4⟩
 ·left;unfold aO;rw[h1];exact hu
 ·unfold aO at hu ⊢;rw[h1]at hu;rw[h2];rcases h4 o with h5|⟨_,u',h5,h6⟩
  ·exact .inl (h5.trans hu)
  ·right;have hu:c[o]? =some u:=hu
   rw[h5]at hu;cases hu;exact h6
def Lk(E:Env)(w w':World):Prop:=w.heap.size≤w'.heap.size∧ ∀b,E.h.size≤b→b<w.heap.size→w'.heap[b]? =w.heap[b]?
theorem Lk.refl:Lk E w w:=⟨Nat.le_refl _,fun _ _ _=>rfl⟩
theorem Lk.trans{w1 w2 w3:World}(h:Lk E w1 w2)(k:Lk E w2 w3):Lk E w1 w3:=⟨Nat.le_trans h.1 k.1,fun b h1 h2=>(k.2 b h1 (Nat.lt_of_lt_of_le h2 h.1)).trans (h.2 b h1 h2)⟩
theorem Lk.get{b:Nat}{x:Obj}(h:Lk E w w')(hb:E.h.size≤b)(hx:w.heap[b]? =some x):w'.heap[b]? =some x:=by
 rw[h.2 b hb (Array.getElem?_eq_some_iff.1 hx).1];exact hx
theorem gH.alloc(h:gH E r w0 w)(o:Obj):gH E r w0 (w.alloc o):=
 ⟨h.same.trans ⟨rfl,rfl,rfl⟩,by have:=h.size;show _≤(w.heap.push o).size;rw[Array.size_push];omega,fun b hb=>by
  have dM:b<w.heap.size:=Nat.lt_of_lt_of_le hb h.size
  have:(w.alloc o).heap[b]? =w.heap[b]? :=by show(w.heap.push o)[b]? =_;rw[Array.getElem?_push_lt dM,Array.getElem?_eq_getElem dM]
  rw[this];exact h.cells b hb⟩
theorem Lk.alloc(o:Obj):Lk E w (w.alloc o):=
 ⟨by show _≤(w.heap.push o).size;rw[Array.size_push];omega,fun b _ hb=>by show(w.heap.push o)[b]? =_;rw[Array.getElem?_push_lt hb,Array.getElem?_eq_getElem hb]⟩
theorem IJ(o:Obj):(w.alloc o).heap[w.heap.size]? =some o:=by show(w.heap.push o)[w.heap.size]? =_;simp
theorem gH.asv(h:gH E r w0 w){b:Nat}{o:Obj}(hb:E.h.size≤b)(hh:w'.heap=w.heap.setIfInBounds b o)(hs:jk w w'):gH E r w0 w':=
 ⟨h.same.trans hs,by rw[hh];simpa using h.size,fun b' dM=>by rw[hh,Array.getElem?_setIfInBounds_ne (by omega)];exact h.cells b' dM⟩
def py(E:Env)(r:Nat)(row:List (Value→Prop))(v:Value):Prop:=
 ∃A n c,v= .slice A n c∧n≤maxLen∧(n=0∨ ∃b o,A=some ⟨b,o,none⟩∧E.dN b=r∧ ∀i,i<n→ ∀(q:Nat) (S:Value→Prop),row[q]? =some S→E.aI b (o+(i*row.length+q))∧ ∃u,aO E.h b (o+(i*row.length+q))=some u∧S u)
theorem Z8{row:List (Value→Prop)}{xs:List (List AV)}{v:Value}(h:Cz E (.sl r xs) v)(hl: ∀l∈xs,l.length=row.length)(hr: ∀l∈xs,∀(q:Nat) (a:AV) (S:Value→Prop),l[q]? =some a→row[q]? =some S→ ∀x,Cz E a x→S x):py E r row v:=by
 cases h with
 |mq=>exact⟨_,_,_,rfl,Nat.zero_le _,.inl rfl⟩
 |sl _ _ z b o c u hp hc hm dw hz hrr hi hs hu hq=>
  refine⟨_,_,_,rfl,Nat.le_trans hc hm,.inr ⟨b,o,rfl,hrr,fun i hi q S hS=>?_⟩⟩;have F1:xs[i]∈xs:=List.getElem_mem hi
  have Ca:z=row.length:=(hz _ F1).symm.trans (hl _ F1)
  have hq1:q<row.length:=(bh.1 hS).1
  have hx:xs[i]? =some xs[i]:=fp hi
  have dc:xs[i][q]? =some (xs[i][q]'(by rw[hl _ F1];exact hq1)):=fp _
  have hf:xs.flatten[i*row.length+q]? =some (xs[i][q]'(by rw[hl _ F1];exact hq1)):=by
   have e1:i*row.length+q=i*z+q:=by rw[Ca]
   rw[e1,dE hz hx q (by omega)];exact dc
  exact⟨hs _ _ hf,_,hu _ _ hf,hr _ F1 q _ S dc hS _ (hq _ _ hf)⟩
theorem py.nil{row:List (Value→Prop)}:py E r row (.slice none 0 0):=⟨_,_,_,rfl,Nat.zero_le _,.inl rfl⟩
theorem py.zk{row:List (Value→Prop)}{v:Value}(h:py E r row v):zk v= .slice none 0 0:=by
 obtain⟨A,n,c,rfl,_,_⟩:=h;rfl
theorem gH.row(h:gH E r w0 w)(hw:Wf E){row:List (Value→Prop)}{A:Option Addr}{n c:Nat}(hv:py E r row (.slice A n c))(hz: ∀S∈row,∀u,S u→S (zk u)){i:Nat}(hi:i<n):
  ∃b o,A=some ⟨b,o,none⟩∧ ∃ys:List Value,ys.length=row.length∧(∀(q:Nat) (y:Value),ys[q]? =some y→aO w.heap b (o+i*row.length+q)=some y)∧ ∀(q:Nat) (S:Value→Prop) (y:Value),row[q]? =some S→ys[q]? =some y→S y:=by
 obtain⟨A',n',c',he,_,h1⟩:=hv;cases he;rcases h1 with h1|⟨b,o,rfl,hr,h1⟩
 ·omega
 refine⟨b,o,rfl,?_⟩;have key: ∀q,q<row.length→ ∃y,aO w.heap b (o+i*row.length+q)=some y∧ ∀S,row[q]? =some S→S y:=fun q hq=>by
  obtain⟨h2,u,h3,h4⟩:=h1 i hi q _ (fp hq);rw[Nat.add_assoc];rcases h.get hw h2 h3 with h5|h5
  ·exact⟨_,h5,fun S hS=>by rw[fp hq]at hS;cases hS;exact h4⟩
  ·exact⟨_,h5,fun S hS=>by rw[fp hq]at hS;cases hS;exact hz _ (List.getElem_mem hq) _ h4⟩
 have build: ∀m,m≤row.length→ ∃ys:List Value,ys.length=m∧(∀(q:Nat) (y:Value),ys[q]? =some y→aO w.heap b (o+i*row.length+q)=some y)∧ ∀(q:Nat) (S:Value→Prop) (y:Value),row[q]? =some S→ys[q]? =some y→S y:=by
  intro m
  induction m with
  |zero=>intro _;exact⟨[],rfl,fun q y hh=>by simp at hh,fun q S y _ hh=>by simp at hh⟩
  |succ m ih=>
   intro hm;obtain⟨ys,g1,g2,g3⟩:=ih (by omega);obtain⟨y,g4,g5⟩:=key m (by omega);refine⟨ys++[y],by simp[g1],fun q y' hq=>?_,fun q S y' hS hq=>?_⟩
   ·by_cases aV:q<m
    ·rw[iq (by omega)]at hq;exact g2 q y' hq
    ·have:q=m:=by have:=(bh.1 hq).1;simp at this;omega
     subst this;rw[ji (by omega)]at hq;simp[g1]at hq;subst hq;exact g4
   ·by_cases aV:q<m
    ·rw[iq (by omega)]at hq;exact g3 q S y' hS hq
    ·have:q=m:=by have:=(bh.1 hq).1;simp at this;omega
     subst this;rw[ji (by omega)]at hq;simp[g1]at hq;subst hq;exact g5 S hS
 exact build row.length (Nat.le_refl _)
theorem ym{zs:List Value}{n q:Nat}(hq:q<n*zs.length):(Builtin.zeroCells zs.toArray n).toList[q]? =zs[q % zs.length]? :=by
 have hz:0<zs.length:=by
  rcases Nat.eq_zero_or_pos zs.length with h|h
  ·rw[h]at hq;simp at hq
  ·exact h
 have hm:=Nat.mod_lt q hz
 simp[Builtin.zeroCells,hq,hm]
theorem ox{zs:List Value}{n:Nat}:(Builtin.zeroCells zs.toArray n).toList.length=n*zs.length:=by simp[Builtin.zeroCells]
theorem gH.clear(hL:bj P L)(h:gH E r w0 w)(hw:Wf E)(hr:1000000≤r){row:List (Value→Prop)}{v:Value}(hv:py E r row v){t e ty:Nat}{ti te:TI}(ht:L t=some ti)(hk:ti.k= .slice e)(he:L e=some te)
  (h0:0<row.length)(hl:te.zero.length=row.length)(hz: ∀(q:Nat) (S:Value→Prop) (z u:Value),row[q]? =some S→te.zero[q]? =some z→S u→zk u=z):
  ∃w',(Builtin.clear_ #[t] ty #[v]).run P w= .ok (.tuple #[]) w'∧gH E r w0 w'∧Lk E w w':=by
 obtain⟨i1,d1,z1,a1,a2,a3,a4,a5,a6,a7⟩:=(hL.ok t ti ht).ex;obtain⟨i2,d2,z2,b1,b2,b3,b4,b5,b6,b7⟩:=(hL.ok e te he).ex;rw[hk]at a7;dsimp only at a7;subst a7;have hzv: ∀w,(zeroValue e).run P w= .ok z2 w:=fun w=>by simp[zeroValue,typeInfo,go_sem,b1,b4]
 obtain⟨A,n,c,rfl,_,h1⟩:=hv;have amM:(n=0∨A=none)→(Builtin.clear_ #[t] ty #[.slice A n c]).run P w= .ok (.tuple #[]) w:=by
  rintro(rfl|rfl)
  ·cases A<;>simp[Builtin.clear_,eV a6]
  ·simp[Builtin.clear_,eV a6]
 cases n with
 |zero=>exact⟨w,amM (.inl rfl),h,.refl⟩
 |succ n=>
  rcases h1 with h1|⟨b,o,rfl,W2,h1⟩
  ·cases h1
  have Xa:0<(n+1)*row.length:=Nat.mul_pos (by omega) (by omega)
  have cell: ∀q,q<(n+1)*row.length→E.aI b (o+q)∧ ∃u z,aO E.h b (o+q)=some u∧te.zero[q % row.length]? =some z∧zk u=z:=fun q hq=>by
   have hm:=Nat.mod_lt q (show 0<row.length by omega)
   have hd:q / row.length<n+1:=(Nat.div_lt_iff_lt_mul (by omega)).2 hq
   obtain⟨g1,u,g2,g3⟩:=h1 (q / row.length) hd (q % row.length) _ (fp hm);rw[Nat.div_add_mod' q row.length]at g1 g2;have vF:te.zero[q % row.length]? =some (te.zero[q % row.length]'(by omega)):=fp _
   exact⟨g1,u,_,g2,vF,hz _ _ _ u (fp hm) vF g3⟩
  have GY:b<E.h.size:=hw.aI _ _ (cell 0 Xa).1
  obtain⟨c0,e0,hc0⟩:=hw.fz b _ (cell 0 Xa).1 (by omega);obtain⟨c1,hc1,dg,Ir⟩: ∃c1,w.heap[b]? =some (.cells c1 e0 (0,0))∧c1.size=c0.size∧ ∀o,c1[o]? =c0[o]? ∨(E.aI b o∧E.dN b=r)∧ ∃u,c0[o]? =some u∧c1[o]? =some (zk u):=by
   rcases h.cells b GY with h2|⟨c,c',e,h2,h3,h4,h5⟩
   ·exact⟨c0,h2.trans hc0,rfl,fun o=> .inl rfl⟩
   ·rw[hc0]at h2;cases h2;exact⟨c',h3,h4,h5⟩
  have Bu: ∀q,q<(n+1)*row.length→o+q<c0.size:=fun q hq=>by
   obtain⟨_,u,_,g2,_⟩:=cell q hq;unfold aO at g2;rw[hc0]at g2;exact(Array.getElem?_eq_some_iff.1 g2).1
  have Xd:=Bu ((n+1)*row.length - 1) (by omega)
  have hvs:z2.cells=te.zero.toArray:=by rw[←b5]
  obtain⟨w',g1,g2,g3⟩:=gT P b o e0 (Builtin.zeroCells te.zero.toArray (n+1)).toList 0 w c1 hc1 (by rw[ox,hl,dg];omega) (fun v hv=>by
   obtain⟨q,hq⟩:=List.getElem?_of_mem hv;have vG:=(bh.1 hq).1
   rw[ox]at vG;rw[ym vG]at hq;exact(hL.ok e te he).aqG v (jK hq))
  obtain⟨f1,f2⟩:=mF o (Builtin.zeroCells te.zero.toArray (n+1)).toList 0 c1 (by rw[ox,hl,dg];omega);generalize hF:((Builtin.zeroCells te.zero.toArray (n+1)).toList.zipIdx.foldl (fun cs (x,j)=>cs.setIfInBounds (o+j) x) c1)=F at g2 f1 f2;have Nk:b<w.heap.size:=Nat.lt_of_lt_of_le GY h.size
  have anF:w'.heap.size=w.heap.size:=by rw[g2];simp
  refine⟨w',?_,⟨h.same.trans g3,by rw[anF];exact h.size,fun b' dM=>?_⟩,by rw[anF];exact Nat.le_refl _,fun b' dM _=>by rw[g2,Array.getElem?_setIfInBounds_ne (by omega)]⟩
  ·simp[Builtin.clear_,eV a6,hzv,hvs,g1]
  ·by_cases tK:b'=b
   ·subst tK;right;refine⟨c0,F,e0,hc0,by rw[g2];simp[Nk],by rw[f1,dg],fun o'=>?_⟩;rw[f2 o',ox,hl];by_cases C6:o+0≤o'∧o'<o+0+(n+1)*row.length
    ·rw[if_pos C6];right;obtain⟨q,rfl⟩: ∃q,o'=o+q:=⟨o' - o,by omega⟩;have hq:q<(n+1)*row.length:=by omega
     obtain⟨k1,u,z,k2,k3,k4⟩:=cell q hq;refine⟨⟨k1,W2⟩,u,?_,?_⟩
     ·unfold aO at k2;rw[hc0]at k2;exact k2
     ·rw[show o+q - (o+0)=q by omega,ym (by rw[hl];exact hq),hl,k3,k4]
    ·rw[if_neg C6];exact Ir o'
   ·rw[g2,Array.getElem?_setIfInBounds_ne (Ne.symm tK)];exact h.cells b' dM
end Ab
namespace Ab
open Go
def eqZ:Value→Value→Bool
 | .int .i64 0,.int .i64 0=>true
 | .int .u8 0,.int .u8 0=>true
 | .int .i32 0,.int .i32 0=>true
 | .int .u32 0,.int .u32 0=>true
 | .int .u64 0,.int .u64 0=>true
 | .bool false,.bool false=>true
 | .string ⟨⟨[]⟩⟩,.string ⟨⟨[]⟩⟩=>true
 | .slice none 0 0,.slice none 0 0=>true
 | .pointer none,.pointer none=>true
 | .map none,.map none=>true
 | .nilFunc,.nilFunc=>true
 | .nilIface,.nilIface=>true
 |_,_=>false
theorem ai3{a b:Value}(h:eqZ a b=true):a=b:=by
 unfold eqZ at h
 split at h<;>first|rfl|cases h
def abL:List Value→List Value→Bool
 |[],[]=>true
 |a::r,b::q=>eqZ a b&&abL r q
 |_,_=>false
theorem QX: ∀{a b:List Value},abL a b=true→a=b
 |[],[],_=>rfl
 |x::r,y::q,h=>by
  simp only[abL,Bool.and_eq_true]at h;rw[ai3 h.1,QX h.2]
 |[],_::_,h=>by cases h
 |_::_,[],h=>by cases h
def QR(P:Program):List Field→List (Nat×Nat)→Bool
 |[],[]=>true
 |f::r,(o,z)::q=>bQ f.offset o&&(match P.info? f.type with
  |some i=>bQ i.size z
  |none=>false)&&QR P r q
 |_,_=>false
theorem MH{P:Program}: ∀{F:List Field} {fs:List (Nat×Nat)},QR P F fs=true→F.length=fs.length∧ ∀(j o z:Nat),fs[j]? =some (o,z)→ ∃f i',F[j]? =some f∧f.offset=o∧P.info? f.type=some i'∧i'.size=z
 |[],[],_=>⟨rfl,fun j o z h=>by simp at h⟩
 |f::r,(o,z)::q,h=>by
  simp only[QR,Bool.and_eq_true]at h;obtain⟨⟨h1,h2⟩,h3⟩:=h;obtain⟨h4,h5⟩:=MH h3;refine⟨by simp[h4],fun j o' z' hj=>?_⟩;cases j with
  |zero=>
   simp at hj;cases hi:P.info? f.type with
   |none=>rw[hi]at h2;cases h2
   |some i=>rw[hi]at h2;exact⟨f,i,rfl,(cY h1).trans hj.1,hi,(cY h2).trans hj.2⟩
  |succ j=>exact h5 j o' z' (by simpa using hj)
 |[],_::_,h=>by cases h
 |_::_,[],h=>by cases h
def adI(P:Program):TK→TypeDesc→Bool
 | .slice e,.slice e'=>bQ e' e
 | .dj fs,.struct F=>QR P F.toList fs
 | .arr n e,.array n' e'=>bQ n' n&&bQ e' e
 | .map k e,.map k' e'=>bQ k' k&&bQ e' e
 | .int k,.int k'=>k'==k
 | .bool,.bool=>true
 | .str,.string=>true
 | .sc,d=>match d with
  | .struct _=>false
  | .array _ _=>false
  |_=>true
 |_,_=>false
def Qi:List Value→Bool
 |[]=>true
 |a::r=>sy a&&Qi r
def ftB:List Field→List Nat→Bool
 |_,[]=>true
 |f::r,t::q=>bQ f.type t&&ftB r q
 |[],_::_=>false
theorem XA: ∀{F:List Field} {l:List Nat},ftB F l=true→ ∀(j t:Nat),l[j]? =some t→ ∃f,F[j]? =some f∧f.type=t
 |_,[],_,j,t,h=>by simp at h
 |f::r,t::q,h,j,t',hj=>by
  simp only[ftB,Bool.and_eq_true]at h;cases j with
  |zero=>simp at hj;exact⟨f,rfl,(cY h.1).trans hj⟩
  |succ j=>exact XA h.2 j t' (by simpa using hj)
 |[],_::_,h,_,_,_=>by cases h
def auG:TypeDesc→List Nat→Bool
 | .struct F,l=>ftB F.toList l
 |_,[]=>true
 |_,_=>false
def tiB(P:Program)(t:Nat)(ti:TI):Bool:=
 match P.info? t with
 |none=>false
 |some i=>match P.underlying t with
  |none=>false
  |some d=>match i.zero with
   |none=>false
   |some z=>bQ i.size ti.size&&bQ i.bytes ti.bytes&&abL z.cells.toList ti.zero&&adI P ti.k d&&bQ ti.zero.length ti.size&&Qi ti.zero&&(ti.agg||sy z)&&auG d ti.ft
theorem L1: ∀{l:List Value},Qi l=true→ ∀x∈l,sy x=true
 |[],_,x,hx=>by cases hx
 |a::r,h,x,hx=>by
  simp only[Qi,Bool.and_eq_true]at h;rcases List.mem_cons.1 hx with rfl|hx
  ·exact h.1
  ·exact L1 h.2 x hx
theorem afM{P:Program}{t:Nat}{ti:TI}(h:tiB P t ti=true):akn P t ti:=by
 unfold tiB at h;cases hi:P.info? t with
 |none=>rw[hi]at h;cases h
 |some i=>
  rw[hi]at h;dsimp only at h;cases hd:P.underlying t with
  |none=>rw[hd]at h;cases h
  |some d=>
   rw[hd]at h;dsimp only at h;cases hz:i.zero with
   |none=>rw[hz]at h;cases h
   |some z=>
    rw[hz]at h;simp only[Bool.and_eq_true]at h;obtain⟨⟨⟨⟨⟨⟨⟨h1,h2⟩,h3⟩,h4⟩,h5⟩,h6⟩,h7'⟩,hft⟩:=h;refine⟨⟨i,d,z,hi,cY h1,cY h2,hz,QX h3,hd,?_⟩,cY h5,L1 h6,(fun tM i' z' e1 e2=>by
     rw[hi]at e1;cases e1;rw[hz]at e2;cases e2;rw[tM]at h7';simpa using h7'),fun F hF j t' hj=>by
     rw[hd]at hF;cases hF;obtain⟨f,g1,g2⟩:=XA hft j t' hj;exact⟨f,by rw[←Array.getElem?_toList];exact g1,g2⟩⟩
    unfold adI at h4
    split at h4
    ·rename_i hk;rw[hk];rw[cY h4]
    ·rename_i fs F hk;rw[hk];obtain⟨h7,h8⟩:=MH h4;refine⟨F,rfl,by simpa using h7,fun j o z hj=>?_⟩;obtain⟨f,i',g1,g2,g3,g4⟩:=h8 j o z hj;exact⟨f,i',by rw[←Array.getElem?_toList];exact g1,g2,g3,g4⟩
    ·rename_i hk;simp only[Bool.and_eq_true]at h4;rw[hk,cY h4.1,cY h4.2]
    ·rename_i hk;simp only[Bool.and_eq_true]at h4;rw[hk,cY h4.1,cY h4.2]
    ·rename_i k k' hk;rw[hk];have:k'=k:=by simpa using h4
     rw[this]
    ·rename_i hk;rw[hk]
    ·rename_i hk;rw[hk]
    ·rename_i hk;rw[hk]
     split at h4
     ·cases h4
     ·cases h4
     ·rename_i _ hns hna;dsimp only
      split
      ·exact hns _ rfl
      ·exact hna _ _ rfl
      ·trivial
    ·cases h4
inductive BT where
 |leaf
 |node (l:BT) (k:Nat) (v:TI) (r:BT)
def BT.get:BT→Nat→Option TI
 | .leaf,_=>none
 | .node l k v r,t=>bif bQ t k then some v else bif sa t k then l.get t else r.get t
def btB(P:Program):BT→Bool
 | .leaf=>true
 | .node l k v r=>tiB P k v&&btB P l&&btB P r
theorem BT.ok{P:Program}: ∀{T:BT},btB P T=true→ ∀t ti,T.get t=some ti→akn P t ti
 | .leaf,_,t,ti,h=>by cases h
 | .node l k v r,hb,t,ti,h=>by
  simp only[btB,Bool.and_eq_true]at hb;simp only[BT.get]at h;cases h1:bQ t k with
  |true=>rw[h1,aE]at h;cases h;rw[cY h1];exact afM hb.1.1
  |false=>
   rw[h1,aM]at h;cases h2:sa t k with
   |true=>rw[h2,aE]at h;exact BT.ok hb.1.2 t ti h
   |false=>rw[h2,aM]at h;exact BT.ok hb.2 t ti h
def tab:BT:=
 (.node (.node (.node (.node (.node (.node (.node (.node .leaf 1 ⟨.sc,1,8,[.nilFunc],[]⟩ .leaf) 2 ⟨.int .i64,1,8,[.int .i64 0],[]⟩ .leaf) 3 ⟨.int .i64,1,8,[.int .i64 0],[]⟩ (.node (.node .leaf 4 ⟨.bool,1,1,[.bool false],[]⟩ .leaf) 5 ⟨.int .u8,1,1,[.int .u8 0],[]⟩ .leaf)) 6 ⟨.int .u8,1,1,[.int .u8 0],[]⟩ (.node (.node (.node .leaf 7 ⟨.dj [(0,1),(1,1),(2,1),(3,1)],4,24,[.int .i64 0,.int .i64 0,.bool false,.int .u8 0],[2,3,4,6]⟩ .leaf) 8 ⟨.dj [(0,1),(1,1),(2,1),(3,1)],4,24,[.int .i64 0,.int .i64 0,.bool false,.int .u8 0],[2,3,4,6]⟩ .leaf) 9 ⟨.str,1,16,[.string ⟨#[]⟩],[]⟩ (.node (.node .leaf 10 ⟨.str,1,16,[.string ⟨#[]⟩],[]⟩ .leaf) 11 ⟨.str,1,16,[.string ⟨#[]⟩],[]⟩ .leaf))) 12 ⟨.int .u64,1,8,[.int .u64 0],[]⟩ (.node (.node (.node (.node .leaf 13 ⟨.dj [(0,1),(1,1)],2,24,[.string ⟨#[]⟩,.int .u64 0],[9,12]⟩ .leaf) 14 ⟨.dj [(0,1),(1,1)],2,24,[.string ⟨#[]⟩,.int .u64 0],[9,12]⟩ .leaf) 15 ⟨.sc,1,8,[.pointer none],[]⟩ (.node (.node .leaf 16 ⟨.sc,1,8,[.pointer none],[]⟩ .leaf) 17 ⟨.sc,1,8,[.pointer none],[]⟩ .leaf)) 18 ⟨.dj [(0,1)],1,8,[.pointer none],[17]⟩ (.node (.node (.node .leaf 19 ⟨.dj [(0,1)],1,8,[.pointer none],[17]⟩ .leaf) 20 ⟨.sc,1,16,[.nilIface],[]⟩ .leaf) 21 ⟨.int .i32,1,4,[.int .i32 0],[]⟩ (.node .leaf 22 ⟨.slice 57,1,24,[gD],[]⟩ .leaf)))) 23 ⟨.dj [(0,1)],1,24,[gD],[22]⟩ (.node (.node (.node (.node (.node .leaf 24 ⟨.dj [(0,1)],1,24,[gD],[22]⟩ .leaf) 25 ⟨.sc,1,8,[.nilFunc],[]⟩ .leaf) 26 ⟨.sc,1,8,[.nilFunc],[]⟩ (.node (.node .leaf 27 ⟨.sc,1,8,[.nilFunc],[]⟩ .leaf) 28 ⟨.sc,1,8,[.nilFunc],[]⟩ .leaf)) 29 ⟨.slice 28,1,24,[gD],[]⟩ (.node (.node (.node .leaf 30 ⟨.slice 3,1,24,[gD],[]⟩ .leaf) 31 ⟨.sc,1,8,[.nilFunc],[]⟩ .leaf) 32 ⟨.int .i64,1,8,[.int .i64 0],[]⟩ (.node (.node .leaf 33 ⟨.sc,1,8,[.nilFunc],[]⟩ .leaf) 34 ⟨.slice 4,1,24,[gD],[]⟩ .leaf))) 35 ⟨.sc,1,8,[.nilFunc],[]⟩ (.node (.node (.node (.node .leaf 37 ⟨.sc,1,8,[.nilFunc],[]⟩ .leaf) 38 ⟨.sc,1,8,[.nilFunc],[]⟩ .leaf) 39 ⟨.sc,1,8,[.nilFunc],[]⟩ (.node (.node .leaf 41 ⟨.sc,1,8,[.nilFunc],[]⟩ .leaf) 43 ⟨.sc,1,8,[.nilFunc],[]⟩ .leaf)) 45 ⟨.sc,1,8,[.nilFunc],[]⟩ (.node (.node (.node .leaf 46 ⟨.sc,1,8,[.nilFunc],[]⟩ .leaf) 47 ⟨.sc,1,8,[.nilFunc],[]⟩ .leaf) 49 ⟨.sc,1,8,[.nilFunc],[]⟩ (.node .leaf 51 ⟨.sc,1,8,[.nilFunc],[]⟩ .leaf))))) 52 ⟨.sc,1,8,[.nilFunc],[]⟩ (.node (.node (.node (.node (.node (.node .leaf 53 ⟨.sc,1,8,[.nilFunc],[]⟩ .leaf) 54 ⟨.sc,1,8,[.nilFunc],[]⟩ .leaf) 55 ⟨.slice 61,1,24,[gD],[]⟩ (.node (.node .leaf 56 ⟨.dj [(0,1),(1,1),(2,1)],3,48,[.string ⟨#[]⟩,.int .i64 0,gD],[9,3,55]⟩ .leaf) 57 ⟨.dj [(0,1),(1,1),(2,1)],3,48,[.string ⟨#[]⟩,.int .i64 0,gD],[9,3,55]⟩ .leaf)) 58 ⟨.sc,1,8,[.nilFunc],[]⟩ (.node (.node (.node .leaf 59 ⟨.slice 64,1,24,[gD],[]⟩ .leaf) 60 ⟨.dj [(0,1),(1,1),(2,1),(3,1)],4,56,[.string ⟨#[]⟩,.int .i64 0,gD,.int .i64 0],[9,3,59,3]⟩ .leaf) 61 ⟨.dj [(0,1),(1,1),(2,1),(3,1)],4,56,[.string ⟨#[]⟩,.int .i64 0,gD,.int .i64 0],[9,3,59,3]⟩ (.node (.node .leaf 62 ⟨.sc,1,8,[.nilFunc],[]⟩ .leaf) 63 ⟨.dj [(0,1),(1,1),(2,1),(3,1)],4,56,[.int .i64 0,.string ⟨#[]⟩,.int .i64 0,gD],[3,9,3,30]⟩ .leaf))) 64 ⟨.dj [(0,1),(1,1),(2,1),(3,1)],4,56,[.int .i64 0,.string ⟨#[]⟩,.int .i64 0,gD],[3,9,3,30]⟩ (.node (.node (.node (.node .leaf 65 ⟨.sc,1,8,[.nilFunc],[]⟩ .leaf) 66 ⟨.sc,1,8,[.nilFunc],[]⟩ .leaf) 67 ⟨.sc,1,8,[.nilFunc],[]⟩ (.node (.node .leaf 68 ⟨.sc,1,8,[.nilFunc],[]⟩ .leaf) 69 ⟨.sc,1,8,[.nilFunc],[]⟩ .leaf)) 70 ⟨.sc,1,8,[.nilFunc],[]⟩ (.node (.node (.node .leaf 71 ⟨.sc,1,8,[.nilFunc],[]⟩ .leaf) 72 ⟨.sc,1,8,[.nilFunc],[]⟩ .leaf) 73 ⟨.sc,1,8,[.nilFunc],[]⟩ (.node .leaf 74 ⟨.sc,1,8,[.nilFunc],[]⟩ .leaf)))) 75 ⟨.arr 2 3,2,16,[.int .i64 0,.int .i64 0],[]⟩ (.node (.node (.node (.node (.node .leaf 76 ⟨.sc,1,8,[.pointer none],[]⟩ .leaf) 77 ⟨.sc,1,8,[.nilFunc],[]⟩ .leaf) 78 ⟨.sc,1,8,[.nilFunc],[]⟩ (.node (.node .leaf 79 ⟨.dj [(0,4),(4,1),(5,1)],6,88,[.string ⟨#[]⟩,.int .i64 0,gD,.int .i64 0,gD,.nilFunc],[61,30,78]⟩ .leaf) 80 ⟨.dj [(0,4),(4,1),(5,1)],6,88,[.string ⟨#[]⟩,.int .i64 0,gD,.int .i64 0,gD,.nilFunc],[61,30,78]⟩ .leaf)) 81 ⟨.sc,1,8,[.nilFunc],[]⟩ (.node (.node (.node .leaf 82 ⟨.sc,1,8,[.nilFunc],[]⟩ .leaf) 83 ⟨.sc,1,8,[.nilFunc],[]⟩ .leaf) 84 ⟨.sc,1,8,[.nilFunc],[]⟩ (.node .leaf 85 ⟨.map 87 30,1,8,[.map none],[]⟩ .leaf))) 86 ⟨.dj [(0,1),(1,1),(2,1)],3,32,[.int .i64 0,.string ⟨#[]⟩,.int .i64 0],[3,9,3]⟩ (.node (.node (.node (.node .leaf 87 ⟨.dj [(0,1),(1,1),(2,1)],3,32,[.int .i64 0,.string ⟨#[]⟩,.int .i64 0],[3,9,3]⟩ .leaf) 88 ⟨.sc,1,8,[.nilFunc],[]⟩ .leaf) 89 ⟨.sc,1,8,[.nilFunc],[]⟩ (.node (.node .leaf 90 ⟨.sc,1,8,[.nilFunc],[]⟩ .leaf) 91 ⟨.sc,1,8,[.nilFunc],[]⟩ .leaf)) 92 ⟨.sc,1,8,[.nilFunc],[]⟩ (.node (.node (.node .leaf 93 ⟨.sc,1,8,[.nilFunc],[]⟩ .leaf) 94 ⟨.sc,1,8,[.nilFunc],[]⟩ .leaf) 95 ⟨.sc,1,8,[.nilFunc],[]⟩ (.node .leaf 96 ⟨.sc,1,8,[.nilFunc],[]⟩ .leaf)))))) 97 ⟨.sc,1,8,[.nilFunc],[]⟩ (.node (.node (.node (.node (.node (.node (.node .leaf 98 ⟨.slice 31,1,24,[gD],[]⟩ .leaf) 99 ⟨.dj [(0,1)],1,8,[.nilFunc],[28]⟩ .leaf) 100 ⟨.dj [(0,1)],1,8,[.nilFunc],[28]⟩ (.node (.node .leaf 101 ⟨.slice 100,1,24,[gD],[]⟩ .leaf) 103 ⟨.sc,1,8,[.nilFunc],[]⟩ .leaf)) 104 ⟨.sc,1,8,[.nilFunc],[]⟩ (.node (.node (.node .leaf 105 ⟨.sc,1,8,[.nilFunc],[]⟩ .leaf) 106 ⟨.slice 34,1,24,[gD],[]⟩ .leaf) 107 ⟨.sc,1,8,[.nilFunc],[]⟩ (.node (.node .leaf 108 ⟨.sc,1,8,[.nilFunc],[]⟩ .leaf) 109 ⟨.arr 12 3,12,96,[.int .i64 0,.int .i64 0,.int .i64 0,.int .i64 0,.int .i64 0,.int .i64 0,.int .i64 0,.int .i64 0,.int .i64 0,.int .i64 0,.int .i64 0,.int .i64 0],[]⟩ .leaf))) 110 ⟨.arr 12 3,12,96,[.int .i64 0,.int .i64 0,.int .i64 0,.int .i64 0,.int .i64 0,.int .i64 0,.int .i64 0,.int .i64 0,.int .i64 0,.int .i64 0,.int .i64 0,.int .i64 0],[]⟩ (.node (.node (.node (.node .leaf 111 ⟨.sc,1,8,[.nilFunc],[]⟩ .leaf) 112 ⟨.sc,1,8,[.nilFunc],[]⟩ .leaf) 113 ⟨.sc,1,8,[.nilFunc],[]⟩ (.node (.node .leaf 114 ⟨.sc,1,8,[.nilFunc],[]⟩ .leaf) 115 ⟨.sc,1,8,[.nilFunc],[]⟩ .leaf)) 116 ⟨.sc,1,8,[.nilFunc],[]⟩ (.node (.node (.node .leaf 117 ⟨.sc,1,8,[.nilFunc],[]⟩ .leaf) 118 ⟨.sc,1,8,[.nilFunc],[]⟩ .leaf) 119 ⟨.sc,1,8,[.nilFunc],[]⟩ (.node .leaf 120 ⟨.sc,1,8,[.nilFunc],[]⟩ .leaf)))) 121 ⟨.sc,1,8,[.nilFunc],[]⟩ (.node (.node (.node (.node (.node .leaf 122 ⟨.arr 6 3,6,48,[.int .i64 0,.int .i64 0,.int .i64 0,.int .i64 0,.int .i64 0,.int .i64 0],[]⟩ .leaf) 123 ⟨.sc,1,8,[.nilFunc],[]⟩ .leaf) 124 ⟨.sc,1,8,[.nilFunc],[]⟩ (.node (.node .leaf 125 ⟨.sc,1,8,[.nilFunc],[]⟩ .leaf) 126 ⟨.sc,1,8,[.nilFunc],[]⟩ .leaf)) 127 ⟨.sc,1,8,[.nilFunc],[]⟩ (.node (.node (.node .leaf 128 ⟨.sc,1,8,[.nilFunc],[]⟩ .leaf) 129 ⟨.sc,1,8,[.pointer none],[]⟩ .leaf) 131 ⟨.sc,1,8,[.nilFunc],[]⟩ (.node .leaf 132 ⟨.sc,1,8,[.nilFunc],[]⟩ .leaf))) 133 ⟨.sc,1,8,[.nilFunc],[]⟩ (.node (.node (.node (.node .leaf 134 ⟨.sc,1,8,[.nilFunc],[]⟩ .leaf) 135 ⟨.sc,1,8,[.nilFunc],[]⟩ .leaf) 136 ⟨.sc,1,8,[.nilFunc],[]⟩ (.node (.node .leaf 137 ⟨.sc,1,8,[.nilFunc],[]⟩ .leaf) 139 ⟨.sc,1,8,[.nilFunc],[]⟩ .leaf)) 140 ⟨.arr 5 3,5,40,[.int .i64 0,.int .i64 0,.int .i64 0,.int .i64 0,.int .i64 0],[]⟩ (.node (.node (.node .leaf 141 ⟨.sc,1,8,[.nilFunc],[]⟩ .leaf) 143 ⟨.sc,1,8,[.nilFunc],[]⟩ .leaf) 144 ⟨.sc,1,8,[.nilFunc],[]⟩ (.node .leaf 145 ⟨.sc,1,8,[.nilFunc],[]⟩ .leaf))))) 146 ⟨.sc,1,8,[.nilFunc],[]⟩ (.node (.node (.node (.node (.node (.node .leaf 147 ⟨.sc,1,8,[.nilFunc],[]⟩ .leaf) 148 ⟨.sc,1,8,[.nilFunc],[]⟩ .leaf) 149 ⟨.sc,1,8,[.nilFunc],[]⟩ (.node (.node .leaf 150 ⟨.sc,1,8,[.nilFunc],[]⟩ .leaf) 151 ⟨.map 3 3,1,8,[.map none],[]⟩ .leaf)) 152 ⟨.sc,1,8,[.nilFunc],[]⟩ (.node (.node (.node .leaf 153 ⟨.sc,1,8,[.nilFunc],[]⟩ .leaf) 154 ⟨.sc,1,8,[.nilFunc],[]⟩ .leaf) 155 ⟨.sc,1,8,[.nilFunc],[]⟩ (.node (.node .leaf 156 ⟨.sc,1,8,[.nilFunc],[]⟩ .leaf) 157 ⟨.sc,1,8,[.nilFunc],[]⟩ .leaf))) 158 ⟨.arr 256 4,256,256,(List.replicate 256 [.bool false]).flatten,[]⟩ (.node (.node (.node (.node .leaf 159 ⟨.arr 256 4,256,256,(List.replicate 256 [.bool false]).flatten,[]⟩ .leaf) 161 ⟨.sc,1,8,[.nilFunc],[]⟩ .leaf) 162 ⟨.sc,1,8,[.nilFunc],[]⟩ (.node (.node .leaf 163 ⟨.sc,1,8,[.pointer none],[]⟩ .leaf) 164 ⟨.sc,1,8,[.nilFunc],[]⟩ .leaf)) 166 ⟨.sc,1,8,[.nilFunc],[]⟩ (.node (.node (.node .leaf 167 ⟨.sc,1,8,[.nilFunc],[]⟩ .leaf) 168 ⟨.sc,1,8,[.nilFunc],[]⟩ .leaf) 169 ⟨.arr 256 5,256,256,(List.replicate 256 [.int .u8 0]).flatten,[]⟩ (.node .leaf 170 ⟨.int .u64,1,8,[.int .u64 0],[]⟩ .leaf)))) 171 ⟨.dj [(0,1),(1,1)],2,2,[.int .u8 0,.int .u8 0],[5,5]⟩ (.node (.node (.node (.node (.node .leaf 172 ⟨.dj [(0,1),(1,1)],2,2,[.int .u8 0,.int .u8 0],[5,5]⟩ .leaf) 173 ⟨.arr 16 172,32,32,[.int .u8 0,.int .u8 0,.int .u8 0,.int .u8 0,.int .u8 0,.int .u8 0,.int .u8 0,.int .u8 0,.int .u8 0,.int .u8 0,.int .u8 0,.int .u8 0,.int .u8 0,.int .u8 0,.int .u8 0,.int .u8 0,.int .u8 0,.int .u8 0,.int .u8 0,.int .u8 0,.int .u8 0,.int .u8 0,.int .u8 0,.int .u8 0,.int .u8 0,.int .u8 0,.int .u8 0,.int .u8 0,.int .u8 0,.int .u8 0,.int .u8 0,.int .u8 0],[]⟩ .leaf) 174 ⟨.sc,1,8,[.nilFunc],[]⟩ (.node (.node .leaf 175 ⟨.sc,1,8,[.nilFunc],[]⟩ .leaf) 176 ⟨.sc,1,8,[.nilFunc],[]⟩ .leaf)) 177 ⟨.sc,1,8,[.nilFunc],[]⟩ (.node (.node (.node .leaf 178 ⟨.sc,1,8,[.nilFunc],[]⟩ .leaf) 179 ⟨.dj [(0,1),(1,1),(2,1),(3,1)],4,40,[.pointer none,.pointer none,.pointer none,.string ⟨#[]⟩],[17,17,17,9]⟩ .leaf) 180 ⟨.dj [(0,1),(1,1),(2,1),(3,1)],4,40,[.pointer none,.pointer none,.pointer none,.string ⟨#[]⟩],[17,17,17,9]⟩ (.node .leaf 181 ⟨.arr 0 16,0,0,[],[]⟩ .leaf))) 182 ⟨.dj [(0,0)],0,0,[],[181]⟩ (.node (.node (.node (.node .leaf 183 ⟨.dj [(0,0)],0,0,[],[181]⟩ .leaf) 184 ⟨.sc,1,8,[.nilFunc],[]⟩ .leaf) 186 ⟨.int .u8,1,1,[.int .u8 0],[]⟩ (.node (.node .leaf 187 ⟨.int .u8,1,1,[.int .u8 0],[]⟩ .leaf) 188 ⟨.sc,1,8,[.nilFunc],[]⟩ .leaf)) 189 ⟨.sc,1,8,[.pointer none],[]⟩ (.node (.node (.node .leaf 190 ⟨.int .i32,1,4,[.int .i32 0],[]⟩ .leaf) 191 ⟨.int .i32,1,4,[.int .i32 0],[]⟩ .leaf) 192 ⟨.dj [(0,1),(1,1),(2,1),(3,1),(4,1),(5,1),(6,1),(7,1),(8,1),(9,1),(10,1)],11,48,[.int .u64 0,.int .u64 0,.int .u32 0,.int .u8 0,.int .u8 0,.int .u8 0,.int .u8 0,.nilFunc,.pointer none,.int .i32 0,.int .i32 0],[12,12,185,186,5,5,187,188,189,190,191]⟩ (.node .leaf 193 ⟨.dj [(0,1),(1,1),(2,1),(3,1),(4,1),(5,1),(6,1),(7,1),(8,1),(9,1),(10,1)],11,48,[.int .u64 0,.int .u64 0,.int .u32 0,.int .u8 0,.int .u8 0,.int .u8 0,.int .u8 0,.nilFunc,.pointer none,.int .i32 0,.int .i32 0],[12,12,185,186,5,5,187,188,189,190,191]⟩ .leaf)))))))
def L:nK:=fun t=>tab.get t
theorem lay:bj Go.Proofs.Tryz.prog L:=⟨BT.ok (by kernel_rfl)⟩
noncomputable abbrev PP:Program:=Go.Proofs.Tryz.prog
theorem mixed:PP.follows .mixedOrders=true:=by kernel_rfl
def vi(n:Int):AV:= .v (.int .i64 n)
def vb(b:Bool):AV:= .v (.bool b)
def vs(b:ByteArray):AV:= .v (.string b)
section
variable{I:Pr}(hI:I=al)
 include hI
end
theorem jB{n:Int}(h: -9223372036854775808≤n∧n≤9223372036854775807):IntKind.wrap .i64 n=n:=by
 have hb:IntKind.bits .i64=64:=rfl
 have hs:IntKind.signed .i64=true:=rfl
 unfold IntKind.wrap;rw[hb,hs];simp only[Bool.true_and,ge_iff_le,decide_eq_true_eq];have e1:(2:Int) ^ 64=18446744073709551616:=by decide
 have e2:(2:Int) ^ (64 - 1)=9223372036854775808:=by decide
 rw[e1,e2]
 split<;>omega
structure Md where
 map:{α β:Type}→(α→β)→List α→List β
 ln:{α:Type}→List α→Nat
def Md.al:Md:=⟨List.map,List.length⟩
section
variable{M:Md}(hM:M= .al)
 include hM
end
instance:Inhabited ByteArray:=⟨⟨#[]⟩⟩
def aq(n:Int):List AV:=[vi n]
def bV(n:Bool):List AV:=[vb n]
def gL(k:Nat):Bool:= !Nf k [25,39,42,50,51,53,54,56,57,58,60,70,71,73,77,87,88,91,107,110,111,115,116,122,128,129,143,150,154,163,164,167]
theorem enters{k:Nat}{fn:Func}{c:Code}(hf:PP.funcs[k]? =some fn)(hb:fn.body=some c)(hn:(fn.name== "runtime.NumGoroutine")=false):ov PP k:=
 fun args w=>Jv hf hb (by simpa using hn) args w
end Ab
namespace Ab
open Go
variable{P:Program}{L:nK}{E:Env}{w0 w w':World}{r:Nat}{a:Act}{n:Nat}{t:List (Nat×Value)}
def mO(n:Nat)(a:Act)(t:List (Nat×Value)):Prop:=a.tmps.size=n∧a.defers=[]∧ ∀d x,look d t=some x→a.tmps.getD d undef=x
theorem mO.put(h:mO n a t){d:Nat}(hd:d<n)(x:Value):mO n (a.put (some d) x) (cT d x t):=by
 refine⟨by simp[Act.put,h.1],h.2.1,fun e y he=>?_⟩;rw[wa a d e x (by rw[h.1];exact hd)];rw[aF]at he;by_cases Ph:e=d
 ·subst Ph;rw[if_pos rfl]at he;cases he;rw[if_pos rfl]
 ·rw[if_neg (Ne.symm Ph)]at he;rw[if_neg Ph];exact h.2.2 e y he
theorem mO.ev(h:mO n a t){d:Nat}{x:Value}(hd:look d t=some x):a.eval (.tmp d)=x:=h.2.2 d x hd
theorem mO.sub(h:mO n a t){t':List (Nat×Value)}(hs: ∀d x,look d t'=some x→look d t=some x):mO n a t':=⟨h.1,h.2.1,fun d x hd=>h.2.2 d x (hs d x hd)⟩
def NE(R:Act→World→Prop):Exit→Act→World→Prop:=fun e a w=>e= .normal∧R a w
theorem RE{x y:Code}{R1 R2:Act→World→Prop}(h:x.wpIn (WF none) 0 P (NE R1) a w)(k: ∀a w,R1 a w→y.wpIn (WF none) 0 P (NE R2) a w):(Code.seq x y).wpIn (WF none) 0 P (NE R2) a w:=
 wpIn_seq (wpIn_mono h fun e a' w' hq=>by
  obtain⟨rfl,hR⟩:=hq;exact k a' w' hR)
theorem aai{id:Nat}{ops:Array Oper}{R:Act→World→Prop}(h:wpListIn (WF none) 0 P ops (NE R) ops.toList a w):(Code.region id ops false).wpIn (WF none) 0 P (NE R) a w:=wpIn_region_list h
theorem avM{id:Nat}{c:Code}{R:Act→World→Prop}(h:c.wpIn (WF none) 0 P (NE R) a w):(Code.block id c).wpIn (WF none) 0 P (NE R) a w:=
 wpIn_block (wpIn_mono h fun e a' w' hq=>by obtain⟨rfl,hR⟩:=hq;exact⟨rfl,hR⟩)
theorem yt{ops:Array Oper}{o:Oper}{rest:List Oper}{Q:Exit→Act→World→Prop}{x:Value}(hg:o.guard=none)(hr:(execOp a.eval o).run P w= .ok (.value x) w')(h:wpListIn (WF none) 0 P ops Q rest (a.put o.dst x) w'):
  wpListIn (WF none) 0 P ops Q (o::rest) a w:=by
 unfold wpListIn;rw[if_pos (by simp[Region.wanted,hg])];have:lz P o a w (fun a w=>wpListIn (WF none) 0 P ops Q rest a w) Q:=by
  unfold lz;rw[hr];exact h
 exact this.wpIn none
theorem afO{ops:Array Oper}{o:Oper}{rest:List Oper}{Q:Exit→Act→World→Prop}(hg:o.guard=none)(hr:(execOp a.eval o).run P w= .ok .skip w')(h:wpListIn (WF none) 0 P ops Q rest (a.put o.dst undef) w'):
  wpListIn (WF none) 0 P ops Q (o::rest) a w:=by
 unfold wpListIn;rw[if_pos (by simp[Region.wanted,hg])];have:lz P o a w (fun a w=>wpListIn (WF none) 0 P ops Q rest a w) Q:=by
  unfold lz;rw[hr];exact h
 exact this.wpIn none
section ops
variable{ops:Array Oper}{o:Oper}{rest:List Oper}{Q:Exit→Act→World→Prop}{d:Nat}
theorem Qh(hL:bj P L)(hf:mO n a t){T x f b q off:Nat}(ho:o.op= .fieldAddr T (.tmp x) f)(hg:o.guard=none)(hd:o.dst=some d)(aV:sa d n=true)(hx:look x t=some (.pointer (some ⟨b,q,none⟩)))(AQ:ik L T f=some off)
  (h: ∀a',mO n a' (cT d (.pointer (some ⟨b,q+off,none⟩)) t)→wpListIn (WF none) 0 P ops Q rest a' w):wpListIn (WF none) 0 P ops Q (o::rest) a w:=by
 refine yt hg (x:= .pointer (some ⟨b,q+off,none⟩)) (w':=w) ?_ ?_
 ·simp only[execOp,ho,hf.ev hx];simp[mr hL AQ]
 ·rw[hd];exact h _ (hf.put (by simpa using aV) _)
theorem UB(hf:mO n a t){x:Operand}(ho:o.op= .move x)(hg:o.guard=none)(hd:o.dst=some d)(aV:sa d n=true){v:Value}(hx:a.eval x=v)
  (h: ∀a',mO n a' (cT d v t)→wpListIn (WF none) 0 P ops Q rest a' w):wpListIn (WF none) 0 P ops Q (o::rest) a w:=by
 refine yt hg (x:=v) (w':=w) ?_ ?_
 ·simp[execOp,ho,hx]
 ·rw[hd];exact h _ (hf.put (by simpa using aV) _)
theorem adn(hf:mO n a t){op:BinOp}{T:Nat}{x y:Operand}{u v z:Value}{ty:Nat}(ho:o.op= .binOp op T x y ty)(hg:o.guard=none)(hd:o.dst=some d)(aV:sa d n=true)(hx:a.eval x=u)(hy:a.eval y=v)(hb:bin al op u v=some z)
  (h: ∀a',mO n a' (cT d z t)→wpListIn (WF none) 0 P ops Q rest a' w):wpListIn (WF none) 0 P ops Q (o::rest) a w:=by
 refine yt hg (x:=z) (w':=w) ?_ ?_
 ·have hg: ∀w,(eqGuard op T x y (a.eval x) (a.eval y)).run P w= .ok () w:=by
   intro w;rw[hx,hy];unfold bin at hb
   split at hb<;>first|(simp[eqGuard,go_sem];done)|(simp at hb)
  simp only[hx,hy]at hg;simp only[execOp,ho,hx,hy];simp[Sem.run_bind,hg,IF hb,Result.andThen]
 ·rw[hd];exact h _ (hf.put (by simpa using aV) _)
theorem alO(hL:bj P L)(hf:mO n a t){c:Call}{x T e:Nat}{ti:TI}{A:Option Addr}{m k:Nat}(ho:o.op= .call c)(hc:c.callee= .builtin .len)(ha:c.args= #[.tmp x])(hT:c.argTypes= #[T])(hg:o.guard=none)(hd:o.dst=some d)(aV:sa d n=true)
  (ht:L T=some ti)(hk:ti.k= .slice e)(hx:look x t=some (.slice A m k))
  (h: ∀a',mO n a' (cT d (.int .i64 m) t)→wpListIn (WF none) 0 P ops Q rest a' w):wpListIn (WF none) 0 P ops Q (o::rest) a w:=by
 obtain⟨i,d',z,h1,h2,h3,h4,h5,h6,h7⟩:=(hL.ok T ti ht).ex;rw[hk]at h7;dsimp only at h7;subst h7;refine yt hg (x:= .int .i64 m) (w':=w) ?_ ?_
 ·have e1:(Builtin.len_ #[T] o.type #[.slice A m k]).run P w= .ok (.int .i64 m) w:=by simp[Builtin.len_,go_sem,underlying,h6,goInt]
  simp[execOp,ho,resolve,hc,invoke,builtin,ha,hT,Sem.run_bind,hf.ev hx,e1,Result.andThen]
 ·rw[hd];exact h _ (hf.put (by simpa using aV) _)
theorem aal(hL:bj P L)(hf:mO n a t){T x y e b q m c:Nat}{i:Nat}{ti:TI}(ho:o.op= .indexAddr T (.tmp x) (.tmp y))(hg:o.guard=none)(hd:o.dst=some d)(aV:sa d n=true)(ht:elemOf L T=some (e,ti))
  (hx:look x t=some (.slice (some ⟨b,q,none⟩) m c))(hy:look y t=some (.int .i64 i))(hi:i<m)
  (h: ∀a',mO n a' (cT d (.pointer (some ⟨b,q+i*ti.size,none⟩)) t)→wpListIn (WF none) 0 P ops Q rest a' w):wpListIn (WF none) 0 P ops Q (o::rest) a w:=by
 refine yt hg (x:= .pointer (some ⟨b,q+i*ti.size,none⟩)) (w':=w) ?_ ?_
 ·simp only[execOp,ho,hf.ev hx,hf.ev hy];have:=j4 (P:=P) hL ht .i64 i b q m c (by omega) (by omega) w
  simp only[Int.toNat_natCast]at this;simp[this]
 ·rw[hd];exact h _ (hf.put (by simpa using aV) _)
theorem aak(hL:bj P L)(hf:mO n a t){T x b q:Nat}{ti:TI}{ys:List Value}(ho:o.op= .load T (.tmp x))(hg:o.guard=none)(hd:o.dst=some d)(aV:sa d n=true)(ht:L T=some ti)(tM:ti.agg=true)(hl:ys.length=ti.size)
  (hx:look x t=some (.pointer (some ⟨b,q,none⟩)))(hy: ∀(j:Nat) (y:Value),ys[j]? =some y→aO w.heap b (q+j)=some y)
  (h: ∀a',mO n a' (cT d (.agg ys.toArray) t)→wpListIn (WF none) 0 P ops Q rest a' w):wpListIn (WF none) 0 P ops Q (o::rest) a w:=by
 have hp:part ti (ys.map AV.v) 0=some (.agg (ys.map .v)):=by
  unfold part;have h1:mM (0+ti.size) (ys.map AV.v).length=true:=by rw[wP];simp[hl]
  rw[h1,tM];simp only[aE,cut,List.drop_zero];rw[List.take_of_length_le (by simp[hl])]
 obtain⟨y,g1,g2⟩:=gU (P:=P) (E:=⟨#[],fun _ _=>False,fun _=>0,fun _=>0,fun _=>False,fun _=>(0,0),fun _=> .Wd,[]⟩) (w:=w) hL ht (b:=b) (o:=q) hp (fun j a' ha=>by
  rw[List.getElem?_map]at ha;cases hj:ys[j]? with
  |none=>rw[hj]at ha;cases ha
  |some y=>rw[hj]at ha;cases ha;exact⟨y,hy j y hj,.v _⟩)
 have QB:y= .agg ys.toArray:=by
  cases g2 with
  |agg _ zs rB hq=>
   congr 1;congr 1;apply List.ext_getElem
   ·simpa using rB
   ·intro j h1 h2;have:=hq j (.v ys[j]) zs[j] (by simp[h2]) (by simp[h1])
    exact bN this
 subst QB;refine yt hg (x:= .agg ys.toArray) (w':=w) ?_ ?_
 ·simp only[execOp,ho,hf.ev hx];simp[show(Instr.loadAt T (.pointer (some ⟨b,q,none⟩))).run P w= .ok (.agg ys.toArray) w from by simpa using g1]
 ·rw[hd];exact h _ (hf.put (by simpa using aV) _)
theorem Qg(hL:bj P L)(hf:mO n a t){T x b q:Nat}{ti:TI}{y:Value}(ho:o.op= .load T (.tmp x))(hg:o.guard=none)(hd:o.dst=some d)(aV:sa d n=true)(ht:L T=some ti)(tM:ti.agg=false)(hl:ti.size=1)
  (hx:look x t=some (.pointer (some ⟨b,q,none⟩)))(hy:aO w.heap b q=some y)
  (h: ∀a',mO n a' (cT d y t)→wpListIn (WF none) 0 P ops Q rest a' w):wpListIn (WF none) 0 P ops Q (o::rest) a w:=by
 have hp:part ti [AV.v y] 0=some (.v y):=by
  unfold part;rw[show mM (0+ti.size) [AV.v y].length=true by rw[wP];simp[hl],tM];rfl
 obtain⟨y',g1,g2⟩:=gU (P:=P) (E:=⟨#[],fun _ _=>False,fun _=>0,fun _=>0,fun _=>False,fun _=>(0,0),fun _=> .Wd,[]⟩) (w:=w) hL ht (b:=b) (o:=q) hp (fun j a' ha=>by
  cases j with
  |zero=>cases ha;exact⟨y,hy,.v _⟩
  |succ j=>simp at ha)
 have:=bN g2
 subst this;refine yt hg (x:=y') (w':=w) ?_ ?_
 ·simp only[execOp,ho,hf.ev hx];simp[show(Instr.loadAt T (.pointer (some ⟨b,q,none⟩))).run P w= .ok y' w from by simpa using g1]
 ·rw[hd];exact h _ (hf.put (by simpa using aV) _)
theorem aan(hL:bj P L)(hf:mO n a t){T:Nat}{ti:TI}(ho:o.op= .alloc T)(hg:o.guard=none)(hd:o.dst=some d)(aV:sa d n=true)(ht:L T=some ti)
  (h: ∀a',mO n a' (cT d (.pointer (some ⟨w.heap.size,0,none⟩)) t)→wpListIn (WF none) 0 P ops Q rest a' (w.alloc (.cells ti.zero.toArray T))):wpListIn (WF none) 0 P ops Q (o::rest) a w:=by
 obtain⟨i,d',z,h1,h2,h3,h4,h5,h6,h7⟩:=(hL.ok T ti ht).ex;have hz:z.cells=ti.zero.toArray:=by rw[←h5]
 refine yt hg (x:= .pointer (some ⟨w.heap.size,0,none⟩)) (w':=w.alloc (.cells ti.zero.toArray T)) ?_ ?_
 ·simp only[execOp,ho];simp[HJ h1 h4,hz]
 ·rw[hd];exact h _ (hf.put (by simpa using aV) _)
theorem alP(hf:mO n a t){T x:Nat}{v:Value}(ho:o.op= .box T (.tmp x))(hg:o.guard=none)(hd:o.dst=some d)(aV:sa d n=true)(hx:look x t=some v)
  (h: ∀a',mO n a' (cT d (.pointer (some ⟨w.heap.size,0,none⟩)) t)→wpListIn (WF none) 0 P ops Q rest a' (w.alloc (.cells v.cells T))):wpListIn (WF none) 0 P ops Q (o::rest) a w:=by
 refine yt hg (x:= .pointer (some ⟨w.heap.size,0,none⟩)) (w':=w.alloc (.cells v.cells T)) ?_ ?_
 ·simp only[execOp,ho,Instr.box,newVar,hf.ev hx];simp[iB]
 ·rw[hd];exact h _ (hf.put (by simpa using aV) _)
theorem UA(hL:bj P L)(hf:mO n a t){T x y b e:Nat}{ti:TI}{ys:List Value}{c:Array Value}(ho:o.op= .store T (.tmp x) (.tmp y))(hg:o.guard=none)(hd:o.dst=none)(ht:L T=some ti)(hl:ys.length=ti.size)(hv: ∀x∈ys,sy x=true)
  (hx:look x t=some (.pointer (some ⟨b,0,none⟩)))(hy:look y t=some (.agg ys.toArray))(hb:w.heap[b]? =some (.cells c e (0,0)))(hc:c.size=ti.size)
  (h: ∀w',w'.heap=w.heap.setIfInBounds b (.cells ys.toArray e (0,0))→jk w w'→wpListIn (WF none) 0 P ops Q rest a w'):wpListIn (WF none) 0 P ops Q (o::rest) a w:=by
 have jh:(Value.agg ys.toArray).cells=ys.toArray:=by simp[Value.cells]
 obtain⟨w',g1,g2,g3⟩:=run_store (P:=P) hL ht (off:=0) (v:= .agg ys.toArray) hb (by rw[jh];simpa using hl) (by omega) (by rw[jh];exact hv);rw[jh]at g2;obtain⟨f1,f2⟩:=mF 0 ys 0 c (by omega);have hF:(ys.zipIdx.foldl (fun cs (x,j)=>cs.setIfInBounds (0+j) x) c)=ys.toArray:=by
  apply Array.ext_getElem?;intro q;rw[f2 q];by_cases hq:q<ys.length
  ·rw[if_pos (by omega)];simp
  ·rw[if_neg (by omega),Array.getElem?_eq_none (by omega),Array.getElem?_eq_none (by simpa using hq)]
 refine afO hg (w':=w') ?_ ?_
 ·simp only[execOp,ho,hf.ev hx,hf.ev hy];simp[g1]
 ·rw[hd];exact h w' (by rw[g2];simp only[];rw[hF]) g3
end ops
theorem qv{d:Nat}{x:Value}(h:mO n a (cT d x t))(hd:look d t=none):mO n a t:=
 h.sub fun e y he=>by
  have:d≠e:=fun hh=>by subst hh;rw[hd]at he;cases he
  rw[aF,if_neg this];exact he
theorem am3{g1 g2 k k1 ti tn tc tx m:Nat}{o1 o2 o3:Oper}{body:Code}{bw:List (Nat×Value)}{J:World→Prop}
  (h1:o1.op= .binOp .lss 3 (.tmp ti) (.tmp tn) 3∧o1.guard=none∧o1.dst=some tc)(h2:o2.op= .binOp .add 3 (.tmp ti) (.const (.int .i64 1)) 3∧o2.guard=none∧o2.dst=some tx)(h3:o3.op= .move (.tmp tx)∧o3.guard=none∧o3.dst=some ti)
  (aV:(sa ti n&&(sa tc n&&sa tx n))=true)(hn:look tn bw=some (.int .i64 m))(hm:m≤maxLen)(ct:look ti bw=none∧look tc bw=none∧look tx bw=none∧ti≠tc∧ti≠tx∧ti≠tn)
  (h0:mO n a (cT ti (.int .i64 0) bw))(hJ:J w)
  (hb: ∀i a w,i<m→mO n a (cT ti (.int .i64 i) bw)→J w→body.wpIn (WF none) 0 P (NE fun a' w'=>mO n a' (cT ti (.int .i64 i) bw)∧J w') a w):
  (Code.block k (Code.loop ((Code.region g1 #[o1] false).seq ((Code.cond (.tmp tc) .skip (.exit k)).seq ((Code.block k1 body).seq (Code.region g2 #[o2,o3] false)))))).wpIn (WF none) 0 P (NE fun a' w'=>mO n a' bw∧J w') a w:=by
 simp only[Bool.and_eq_true]at aV;refine wpIn_block ?_;refine vx (fun q a w=> ∃i,i≤m∧q=m - i∧mO n a (cT ti (.int .i64 i) bw)∧J w) m ⟨0,Nat.zero_le _,rfl,h0,hJ⟩ ?_
 rintro q a w ⟨i,hi,rfl,hf,hJ⟩
 have rE:look ti (cT ti (Value.int .i64 i) bw)=some (.int .i64 i):=bR _ _ _
 have QC:look tn (cT ti (Value.int .i64 i) bw)=some (.int .i64 m):=by rw[aF,if_neg ct.2.2.2.2.2];exact hn
 refine wpIn_seq (wpIn_region_list ?_);refine adn (z:= .bool (decide ((i:Int)<m))) hf h1.1 h1.2.1 h1.2.2 aV.2.1 (hf.ev rE) (hf.ev QC) (by simp[bin,al]) fun a1 f1=>?_;show Code.wpIn _ _ _ _ _ _ _;refine wpIn_seq (wpIn_cond (t:=decide ((i:Int)<m)) (f1.ev (bR _ _ _)) ?_);by_cases kY:i<m
 ·rw[if_pos (by simpa using kY)];refine wpIn_skip ?_;show Code.wpIn _ _ _ _ _ _ _;have f2:mO n a1 (cT ti (.int .i64 i) bw):=qv f1 (by rw[aF,if_neg ct.2.2.2.1];exact ct.2.1)
  refine wpIn_seq (wpIn_mono (avM (hb i a1 w kY f2 hJ)) fun e a3 w3 hq=>?_);obtain⟨rfl,f3,J3⟩:=hq;show Code.wpIn _ _ _ _ _ _ _;refine wpIn_region_list ?_;refine adn (z:= .int .i64 ((i+1:Nat):Int)) f3 h2.1 h2.2.1 h2.2.2 aV.2.2 (f3.ev rE) rfl ?_ fun a4 f4=>?_
  ·have hM:maxLen=9223372036854775807:=by decide
   have h4:IntKind.wrap .i64 ((i:Int)+1)=((i+1:Nat):Int):=by
    unfold IntKind.wrap;simp only[IntKind.bits,IntKind.signed,Bool.true_and];rw[if_neg (by simp;omega)];omega
   show(some (Value.int .i64 (IntKind.wrap .i64 ((i:Int)+1))):Option Value)=_;rw[h4]
  refine UB f4 h3.1 h3.2.1 h3.2.2 aV.1 (f4.ev (bR _ _ _)) fun a5 f5=>?_;refine wpListIn_nil ?_;show∃n',n'<m - i∧_;refine⟨m - (i+1),by omega,i+1,by omega,rfl,f5.sub fun e y he=>?_,J3⟩;rw[aF]at he ⊢;by_cases hte:ti=e
  ·rw[if_pos hte]at he ⊢;exact he
  ·rw[if_neg hte]at he ⊢;have:tx≠e:=fun hh=>by subst hh;rw[ct.2.2.1]at he;cases he
   rw[aF,if_neg this,aF,if_neg hte];exact he
 ·rw[if_neg (by simpa using kY)];refine wpIn_exit ?_;show Exit.inBlock k _ (.exit k) _ _;simp only[Exit.inBlock,if_true];exact⟨rfl,qv (qv f1 (by rw[aF,if_neg ct.2.2.2.1];exact ct.2.1)) ct.1,hJ⟩
end Ab
namespace Ab
open Go
variable{P:Program}{L:nK}{E:Env}{w0 w w':World}{r:Nat}{a:Act}{n:Nat}{t bw:List (Nat×Value)}{row:List (Value→Prop)}
structure yP(row:List (Value→Prop)):Prop where
 zk: ∀S∈row,∀u,S u→S (zk u)
 one: ∀S∈row,∀u,S u→sy u=true
 pos:0<row.length
theorem aam(hL:bj P L)(h:gH E r w0 w)(hw:Wf E)(hr:1000000≤r)(hf:mO n a t){ops:Array Oper}{o:Oper}{rest:List Oper}{Q:Exit→Act→World→Prop}{c:Call}{x T e:Nat}{ti te:TI}{v:Value}(ho:o.op= .call c)(hc:c.callee= .builtin .clear)(ha:c.args= #[.tmp x])(hT:c.argTypes= #[T])(hg:o.guard=none)(hd:o.dst=none)
  (hx:look x t=some v)(hv:py E r row v)(hR:yP row)(ht:L T=some ti)(hk:ti.k= .slice e)(he:L e=some te)(hl:te.zero.length=row.length)(hz: ∀(q:Nat) (S:Value→Prop) (z u:Value),row[q]? =some S→te.zero[q]? =some z→S u→zk u=z)
  (k: ∀w',gH E r w0 w'→Lk E w w'→wpListIn (WF none) 0 P ops Q rest a w'):wpListIn (WF none) 0 P ops Q (o::rest) a w:=by
 obtain⟨w',g1,g2,g3⟩:=h.clear (P:=P) hL hw hr hv (ty:=o.type) ht hk he hR.pos hl hz;refine yt hg (x:= .tuple #[]) (w':=w') ?_ ?_
 ·simp[execOp,ho,resolve,hc,invoke,builtin,ha,hT,Sem.run_bind,hf.ev hx,g1,Result.andThen]
 ·rw[hd];exact k w' g2 g3
theorem aoK(hL:bj P L)(hw:Wf E){id T e ts ti tp tv tb:Nat}{o1 o2 o3 o4:Oper}{A:Option Addr}{m c i:Nat}{te:TI}{R:Act→World→Prop}
  (h1:o1.op= .indexAddr T (.tmp ts) (.tmp ti)∧o1.guard=none∧o1.dst=some tp)(h2:o2.op= .load e (.tmp tp)∧o2.guard=none∧o2.dst=some tv)(h3:o3.op= .alloc e∧o3.guard=none∧o3.dst=some tb)(h4:o4.op= .store e (.tmp tb) (.tmp tv)∧o4.guard=none∧o4.dst=none)
  (aV:(sa tp n&&(sa tv n&&sa tb n))=true)(ct:tp≠tv∧tv≠tb∧look tp bw=none∧look tv bw=none∧tp≠tb)(sg:elemOf L T=some (e,te))(he:L e=some te)(tM:te.agg=true)(dg:te.size=row.length)
  (hs:look ts bw=some (.slice A m c))(hi:look ti bw=some (.int .i64 i))(kY:i<m)(hv:py E r row (.slice A m c))(hR:yP row)(hf:mO n a bw)(h:gH E r w0 w)
  (k: ∀a' w' B (ys:List Value),E.h.size≤B→w'.heap[B]? =some (.cells ys.toArray e (0,0))→ys.length=row.length→(∀(q:Nat) (S:Value→Prop) (y:Value),row[q]? =some S→ys[q]? =some y→S y)→
   mO n a' (cT tb (.pointer (some ⟨B,0,none⟩)) bw)→gH E r w0 w'→Lk E w w'→R a' w'):
  (Code.region id #[o1,o2,o3,o4] false).wpIn (WF none) 0 P (NE R) a w:=by
 simp only[Bool.and_eq_true]at aV;obtain⟨b,o,rfl,ys,y1,y2,y3⟩:=h.row hw hv hR.zk kY;have eu: ∀{d:Nat} {x y:Value} {t:List (Nat×Value)} {e:Nat},e≠d→look d t=some y→look d (cT e x t)=some y:=fun hh hy=>by rw[aF,if_neg hh];exact hy
 have nek: ∀{d e:Nat} {x:Value},look e bw=none→look d bw=some x→e≠d:=fun h1 h2 hh=>by subst hh;rw[h1]at h2;cases h2
 refine aai ?_;refine aal hL hf h1.1 h1.2.1 h1.2.2 aV.1 sg hs hi kY fun a1 f1=>?_;rw[dg]at f1;refine aak hL f1 (ys:=ys) h2.1 h2.2.1 h2.2.2 aV.2.1 he tM (by rw[dg];exact y1) (bR _ _ _) (fun j y hj=>y2 j y hj) fun a2 f2=>?_;refine aan hL f2 h3.1 h3.2.1 h3.2.2 aV.2.2 he fun a3 f3=>?_;have wV: ∀x∈ys,sy x=true:=fun x hx=>by
  obtain⟨q,hq⟩:=List.getElem?_of_mem hx;have vG:q<row.length:=by rw[←y1];exact(bh.1 hq).1
  exact hR.one _ (List.getElem_mem vG) _ (y3 q _ x (fp vG) hq)
 refine UA (ys:=ys) hL f3 h4.1 h4.2.1 h4.2.2 he (by rw[dg];exact y1) wV (bR _ _ _) (eu (Ne.symm ct.2.1) (bR _ _ _)) (IJ _) (by rw[List.size_toArray];exact(hL.ok e te he).KV) fun w1 g1 g2=>?_;have Pb:w.heap.size<(w.alloc (.cells te.zero.toArray e)).heap.size:=by show _<(w.heap.push _).size;rw[Array.size_push];omega
 refine wpListIn_nil ⟨rfl,k _ _ w.heap.size ys h.size ?_ y1 y3 ?_ ((h.alloc _).asv h.size g1 g2) ?_⟩
 ·rw[g1];rw[Array.getElem?_setIfInBounds_self_of_lt Pb]
 ·refine f3.sub fun d x hd=>?_;rw[aF]at hd ⊢;by_cases hbd:tb=d
  ·rw[if_pos hbd]at hd ⊢;exact hd
  ·rw[if_neg hbd]at hd ⊢;rw[aF,if_neg (nek ct.2.2.2.1 hd),aF,if_neg (nek ct.2.2.1 hd)];exact hd
 ·refine⟨by rw[g1,Array.size_setIfInBounds];omega,fun b' dM DO=>?_⟩;rw[g1,Array.getElem?_setIfInBounds_ne (by omega)];exact(Lk.alloc (.cells te.zero.toArray e)).2 b' dM DO
theorem SX(hL:bj P L){id T f tb tp tv tn ti B off e T2 e2:Nat}{NJ:TI}{o1 o2 o3 o4:Oper}{cl:Call}{ys:List Value}{A:Option Addr}{m c:Nat}{R:Act→World→Prop}
  (h1:o1.op= .fieldAddr T (.tmp tb) f∧o1.guard=none∧o1.dst=some tp)(h2:o2.op= .load T2 (.tmp tp)∧o2.guard=none∧o2.dst=some tv)(h3:o3.op= .call cl∧o3.guard=none∧o3.dst=some tn)(jh:cl.callee= .builtin .len∧cl.args= #[.tmp tv]∧cl.argTypes= #[T2])
  (h4:o4.op= .move (.const (.int .i64 0))∧o4.guard=none∧o4.dst=some ti)
  (aV:(sa tp n&&(sa tv n&&(sa tn n&&sa ti n)))=true)(ct:tp≠tv∧tp≠tn∧tp≠ti∧tv≠tn∧tv≠ti∧tn≠ti∧look tp bw=none∧look tv bw=none∧look tn bw=none)(AQ:ik L T f=some off)(ht2:L T2=some NJ)(F6:NJ.k= .slice e2)(Nh:NJ.size=1)
  (hb:look tb bw=some (.pointer (some ⟨B,0,none⟩)))(hw:w.heap[B]? =some (.cells ys.toArray e (0,0)))(hy:ys[off]? =some (.slice A m c))(hf:mO n a bw)
  (k: ∀a',mO n a' (cT ti (.int .i64 0) (cT tn (.int .i64 m) (cT tv (.slice A m c) bw)))→R a' w):
  (Code.region id #[o1,o2,o3,o4] false).wpIn (WF none) 0 P (NE R) a w:=by
 simp only[Bool.and_eq_true]at aV;refine aai ?_;refine Qh hL hf h1.1 h1.2.1 h1.2.2 aV.1 hb AQ fun a1 f1=>?_;rw[Nat.zero_add]at f1;refine Qg hL f1 (y:= .slice A m c) h2.1 h2.2.1 h2.2.2 aV.2.1 ht2 (by unfold TI.agg;rw[F6]) Nh (bR _ _ _) (by unfold aO;rw[hw];simpa using hy) fun a2 f2=>?_;refine alO hL f2 h3.1 jh.1 jh.2.1 jh.2.2 h3.2.1 h3.2.2 aV.2.2.1 ht2 F6 (bR _ _ _) fun a3 f3=>?_;refine UB f3 h4.1 h4.2.1 h4.2.2 aV.2.2.2 (v:= .int .i64 0) rfl fun a4 f4=>?_;refine wpListIn_nil ⟨rfl,k a4 (f4.sub fun d x hd=>?_)⟩;rw[aF]at hd ⊢;by_cases e1:ti=d
 ·rw[if_pos e1]at hd ⊢;exact hd
 ·rw[if_neg e1]at hd ⊢;rw[aF]at hd ⊢;by_cases e2:tn=d
  ·rw[if_pos e2]at hd ⊢;exact hd
  ·rw[if_neg e2]at hd ⊢;rw[aF]at hd ⊢;by_cases e3:tv=d
   ·rw[if_pos e3]at hd ⊢;exact hd
   ·rw[if_neg e3]at hd ⊢;rw[aF,if_neg (fun hh=>by subst hh;rw[ct.2.2.2.2.2.2.1]at hd;cases hd)];exact hd
theorem MJ(hL:bj P L)(hW:Wf E)(hr:1000000≤r){id T f tb tp tv B off e T2 e2:Nat}{NJ te:TI}{o1 o2 o3:Oper}{cl:Call}{ys:List Value}{v:Value}{R:Act→World→Prop}
  (h1:o1.op= .fieldAddr T (.tmp tb) f∧o1.guard=none∧o1.dst=some tp)(h2:o2.op= .load T2 (.tmp tp)∧o2.guard=none∧o2.dst=some tv)(h3:o3.op= .call cl∧o3.guard=none∧o3.dst=none)(jh:cl.callee= .builtin .clear∧cl.args= #[.tmp tv]∧cl.argTypes= #[T2])
  (aV:(sa tp n&&sa tv n)=true)(ct:look tp bw=none∧look tv bw=none)(AQ:ik L T f=some off)(ht2:L T2=some NJ)(F6:NJ.k= .slice e2)(Nh:NJ.size=1)(he2:L e2=some te)
  (hl:te.zero.length=row.length)(hz: ∀(q:Nat) (S:Value→Prop) (z u:Value),row[q]? =some S→te.zero[q]? =some z→S u→zk u=z)
  (hb:look tb bw=some (.pointer (some ⟨B,0,none⟩)))(hw:w.heap[B]? =some (.cells ys.toArray e (0,0)))(hy:ys[off]? =some v)(hv:py E r row v)(hR:yP row)(hf:mO n a bw)(h:gH E r w0 w)
  (k: ∀a' w',mO n a' bw→gH E r w0 w'→Lk E w w'→R a' w'):
  (Code.region id #[o1,o2,o3] false).wpIn (WF none) 0 P (NE R) a w:=by
 simp only[Bool.and_eq_true]at aV;refine aai ?_;refine Qh hL hf h1.1 h1.2.1 h1.2.2 aV.1 hb AQ fun a1 f1=>?_;rw[Nat.zero_add]at f1;refine Qg hL f1 (y:=v) h2.1 h2.2.1 h2.2.2 aV.2 ht2 (by unfold TI.agg;rw[F6]) Nh (bR _ _ _) (by unfold aO;rw[hw];simpa using hy) fun a2 f2=>?_;refine aam hL h hW hr f2 h3.1 jh.1 jh.2.1 jh.2.2 h3.2.1 h3.2.2 (bR _ _ _) hv hR ht2 F6 he2 hl hz fun w' g1 g2=>?_;refine wpListIn_nil ⟨rfl,k a2 w' (f2.sub fun d x hd=>?_) g1 g2⟩;rw[aF,if_neg (fun hh=>by subst hh;rw[ct.2]at hd;cases hd),aF,if_neg (fun hh=>by subst hh;rw[ct.1]at hd;cases hd)];exact hd
def isI(v:Value):Prop:= ∃m,v= .int .i64 m
def isS(v:Value):Prop:= ∃s,v= .string s
def MX:List (Value→Prop):=[isI]
def JT(E:Env)(r:Nat):List (Value→Prop):=[isI,isS,isI,py E r MX]
def Hq(E:Env)(r:Nat):List (Value→Prop):=[isS,isI,py E r (JT E r),isI]
def Ct(E:Env)(r:Nat):List (Value→Prop):=[isS,isI,py E r (Hq E r)]
theorem Nm{u:Value}(h:isI u):zk u= .int .i64 0:=by obtain⟨m,rfl⟩:=h;rfl
theorem Y8{u:Value}(h:isS u):zk u= .string ⟨#[]⟩:=by obtain⟨m,rfl⟩:=h;rfl
def Q4(S:Value→Prop):Prop:=(∀u,S u→S (zk u))∧ ∀u,S u→sy u=true
theorem KA:Q4 isI:=⟨fun u h=>⟨0,Nm h⟩,fun u h=>by obtain⟨m,rfl⟩:=h;rfl⟩
theorem Pv:Q4 isS:=⟨fun u h=>⟨_,Y8 h⟩,fun u h=>by obtain⟨m,rfl⟩:=h;rfl⟩
theorem Pw{row:List (Value→Prop)}:Q4 (py E r row):=⟨fun u h=>by rw[h.zk];exact .nil,fun u h=>by obtain⟨A,m,c,rfl,_⟩:=h;rfl⟩
theorem Qe{row:List (Value→Prop)}(h: ∀S∈row,Q4 S)(h0:0<row.length):yP row:=⟨fun S hS=>(h S hS).1,fun S hS=>(h S hS).2,h0⟩
theorem acS:yP MX:=Qe (by simp[MX,KA]) (by decide)
theorem V2:yP (JT E r):=Qe (by simp[JT,KA,Pv,Pw]) (by simp[JT])
theorem X6:yP (Hq E r):=Qe (by simp[Hq,KA,Pv,Pw]) (by simp[Hq])
theorem Yb:yP (Ct E r):=Qe (by simp[Ct,KA,Pv,Pw]) (by simp[Ct])
noncomputable def c25:Code:=Go.Proofs.Tryz.f25.body.get (by kernel_rfl)
def aef(r:Nat)(a:AV):Prop:= ∃xs,a= .sl r xs∧ ∀l∈xs,∃m,l=[.v (.int .i64 m)]
def amH(r:Nat)(a:AV):Prop:= ∃xs,a= .sl r xs∧ ∀l∈xs,∃k nm m g,l=[.v (.int .i64 k),.v (.string nm),.v (.int .i64 m),g]∧aef r g
def apg(r:Nat)(a:AV):Prop:= ∃xs,a= .sl r xs∧ ∀l∈xs,∃nm k g m,l=[.v (.string nm),.v (.int .i64 k),g,.v (.int .i64 m)]∧amH r g
def api(r:Nat)(a:AV):Prop:= ∃xs,a= .sl r xs∧ ∀l∈xs,∃nm k g,l=[.v (.string nm),.v (.int .i64 k),g]∧apg r g
def Q2(a:AV):Prop:= ∃r xs,a= .agg [.sl r xs]∧api r (.sl r xs)
theorem acT{v:Value}{a:AV}(ha:aef r a)(h:Cz E a v):py E r MX v:=by
 obtain⟨xs,rfl,hx⟩:=ha;refine Z8 h (fun l hl=>by obtain⟨m,rfl⟩:=hx l hl;rfl) fun l hl q a S hq hS x hc=>?_;obtain⟨m,rfl⟩:=hx l hl
 match q,hq,hS with
 |0,hq,hS=>cases hq;cases hS;exact⟨m,bN hc⟩
theorem ahE{v:Value}{a:AV}(ha:amH r a)(h:Cz E a v):py E r (JT E r) v:=by
 obtain⟨xs,rfl,hx⟩:=ha;refine Z8 h (fun l hl=>by obtain⟨_,_,_,_,rfl,_⟩:=hx l hl;rfl) fun l hl q a S hq hS x hc=>?_;obtain⟨k,nm,m,g,rfl,hg⟩:=hx l hl
 match q,hq,hS with
 |0,hq,hS=>cases hq;cases hS;exact⟨_,bN hc⟩
 |1,hq,hS=>cases hq;cases hS;exact⟨_,bN hc⟩
 |2,hq,hS=>cases hq;cases hS;exact⟨_,bN hc⟩
 |3,hq,hS=>cases hq;cases hS;exact acT hg hc
theorem akh{v:Value}{a:AV}(ha:apg r a)(h:Cz E a v):py E r (Hq E r) v:=by
 obtain⟨xs,rfl,hx⟩:=ha;refine Z8 h (fun l hl=>by obtain⟨_,_,_,_,rfl,_⟩:=hx l hl;rfl) fun l hl q a S hq hS x hc=>?_;obtain⟨nm,k,g,m,rfl,hg⟩:=hx l hl
 match q,hq,hS with
 |0,hq,hS=>cases hq;cases hS;exact⟨_,bN hc⟩
 |1,hq,hS=>cases hq;cases hS;exact⟨_,bN hc⟩
 |2,hq,hS=>cases hq;cases hS;exact ahE hg hc
 |3,hq,hS=>cases hq;cases hS;exact⟨_,bN hc⟩
theorem aki{v:Value}{a:AV}(ha:api r a)(h:Cz E a v):py E r (Ct E r) v:=by
 obtain⟨xs,rfl,hx⟩:=ha;refine Z8 h (fun l hl=>by obtain⟨_,_,_,rfl,_⟩:=hx l hl;rfl) fun l hl q a S hq hS x hc=>?_;obtain⟨nm,k,g,rfl,hg⟩:=hx l hl
 match q,hq,hS with
 |0,hq,hS=>cases hq;cases hS;exact⟨_,bN hc⟩
 |1,hq,hS=>cases hq;cases hS;exact⟨_,bN hc⟩
 |2,hq,hS=>cases hq;cases hS;exact akh hg hc
theorem ali{row:List (Value→Prop)}{zs:List Value}(h: ∀(q:Nat) (S:Value→Prop) (z:Value),row[q]? =some S→zs[q]? =some z→ ∀u,S u→zk u=z): ∀(q:Nat) (S:Value→Prop) (z u:Value),row[q]? =some S→zs[q]? =some z→S u→zk u=z:=
 fun q S z u h1 h2 h3=>h q S z h1 h2 u h3
def Bx(E:Env)(w:World)(B e:Nat)(row:List (Value→Prop)):Prop:=E.h.size≤B∧ ∃ys:List Value,w.heap[B]? =some (.cells ys.toArray e (0,0))∧ys.length=row.length∧ ∀(q:Nat) (S:Value→Prop) (y:Value),row[q]? =some S→ys[q]? =some y→S y
theorem Bx.mono{B e:Nat}(h:Bx E w B e row)(k:Lk E w w'):Bx E w' B e row:=by
 obtain⟨h1,ys,h2,h3⟩:=h;exact⟨h1,ys,k.get h1 h2,h3⟩
theorem XP(hw:Wf E){id T e ts ti tp tv tb:Nat}{o1 o2 o3 o4:Oper}{A:Option Addr}{m c i:Nat}{te:TI}{y:Code}{wb:World}
  (h1:o1.op= .indexAddr T (.tmp ts) (.tmp ti)∧o1.guard=none∧o1.dst=some tp)(h2:o2.op= .load e (.tmp tp)∧o2.guard=none∧o2.dst=some tv)(h3:o3.op= .alloc e∧o3.guard=none∧o3.dst=some tb)(h4:o4.op= .store e (.tmp tb) (.tmp tv)∧o4.guard=none∧o4.dst=none)
  (aV:(sa tp 40&&(sa tv 40&&sa tb 40))=true)(ct:tp≠tv∧tv≠tb∧look tp bw=none∧look tv bw=none∧tp≠tb)(Ty:look tb bw=none)(sg:elemOf Ab.L T=some (e,te))(he:Ab.L e=some te)(tM:te.agg=true)(dg:te.size=row.length)
  (hs:look ts bw=some (.slice A m c))(hi:look ti bw=some (.int .i64 i))(kY:i<m)(hv:py E r row (.slice A m c))(hR:yP row)(hf:mO 40 a bw)(h:gH E r w0 w∧Lk E wb w)
  (k: ∀a1 w1 B,Bx E w1 B e row→mO 40 a1 (cT tb (.pointer (some ⟨B,0,none⟩)) bw)→gH E r w0 w1→y.wpIn (WF none) 0 PP (NE fun a' w'=>mO 40 a' (cT tb (.pointer (some ⟨B,0,none⟩)) bw)∧gH E r w0 w'∧Lk E w1 w') a1 w1):
  (Code.seq (.region id #[o1,o2,o3,o4] false) y).wpIn (WF none) 0 PP (NE fun a' w'=>mO 40 a' bw∧gH E r w0 w'∧Lk E wb w') a w:=by
 refine RE (R1:=fun a' w'=> ∃B,Bx E w' B e row∧mO 40 a' (cT tb (.pointer (some ⟨B,0,none⟩)) bw)∧gH E r w0 w'∧Lk E wb w') ?_ ?_
 ·exact aoK lay hw h1 h2 h3 h4 aV ct sg he tM dg hs hi kY hv hR hf h.1 fun a' w' B ys e1 e2 e3 e4 e5 e6 e7=>⟨B,⟨e1,ys,e2,e3,e4⟩,e5,e6,h.2.trans e7⟩
 ·rintro a1 w1 ⟨B,e1,e2,e3,e4⟩
  refine wpIn_mono (k a1 w1 B e1 e2 e3) fun e a2 w2 hq=>?_;obtain⟨rfl,f1,f2,f3⟩:=hq;exact⟨rfl,qv f1 Ty,f2,e4.trans f3⟩
theorem Ky(hw:Wf E)(hr:1000000≤r){id T f tb tp tv B off e T2 e2:Nat}{NJ te:TI}{o1 o2 o3:Oper}{cl:Call}{wb:World}{row2:List (Value→Prop)}
  (h1:o1.op= .fieldAddr T (.tmp tb) f∧o1.guard=none∧o1.dst=some tp)(h2:o2.op= .load T2 (.tmp tp)∧o2.guard=none∧o2.dst=some tv)(h3:o3.op= .call cl∧o3.guard=none∧o3.dst=none)(jh:cl.callee= .builtin .clear∧cl.args= #[.tmp tv]∧cl.argTypes= #[T2])
  (aV:(sa tp 40&&sa tv 40)=true)(ct:look tp bw=none∧look tv bw=none)(AQ:ik Ab.L T f=some off)(ht2:Ab.L T2=some NJ)(F6:NJ.k= .slice e2)(Nh:NJ.size=1)(he2:Ab.L e2=some te)
  (hl:te.zero.length=row2.length)(hz: ∀(q:Nat) (S:Value→Prop) (z:Value),row2[q]? =some S→te.zero[q]? =some z→ ∀u,S u→zk u=z)
  (hb:look tb bw=some (.pointer (some ⟨B,0,none⟩)))(hB:Bx E w B e row)(hS:row[off]? =some (py E r row2))(hR:yP row2)(hf:mO 40 a bw)(h:gH E r w0 w∧Lk E wb w):
  (Code.region id #[o1,o2,o3] false).wpIn (WF none) 0 PP (NE fun a' w'=>mO 40 a' bw∧gH E r w0 w'∧Lk E wb w') a w:=by
 obtain⟨e1,ys,e2,e3,e4⟩:=hB;have Pb:off<ys.length:=by rw[e3];exact(bh.1 hS).1
 have hy:ys[off]? =some ys[off]:=fp Pb
 exact MJ lay hw hr h1 h2 h3 jh aV ct AQ ht2 F6 Nh he2 hl (ali hz) hb e2 hy (e4 off _ _ hS hy) hR hf h.1 fun a' w' f1 f2 f3=>⟨f1,f2,h.2.trans f3⟩
theorem TX{id T f tb tp tv tn ti tc tx B off e T2 e2 k k1 g1 g2:Nat}{NJ:TI}{o1 o2 o3 o4 q1 q2 q3:Oper}{cl:Call}{wb:World}{row2:List (Value→Prop)}{body:Code}
  (h1:o1.op= .fieldAddr T (.tmp tb) f∧o1.guard=none∧o1.dst=some tp)(h2:o2.op= .load T2 (.tmp tp)∧o2.guard=none∧o2.dst=some tv)(h3:o3.op= .call cl∧o3.guard=none∧o3.dst=some tn)(jh:cl.callee= .builtin .len∧cl.args= #[.tmp tv]∧cl.argTypes= #[T2])
  (h4:o4.op= .move (.const (.int .i64 0))∧o4.guard=none∧o4.dst=some ti)
  (j1:q1.op= .binOp .lss 3 (.tmp ti) (.tmp tn) 3∧q1.guard=none∧q1.dst=some tc)(j2:q2.op= .binOp .add 3 (.tmp ti) (.const (.int .i64 1)) 3∧q2.guard=none∧q2.dst=some tx)(j3:q3.op= .move (.tmp tx)∧q3.guard=none∧q3.dst=some ti)
  (aV:(sa tp 40&&(sa tv 40&&(sa tn 40&&sa ti 40))&&(sa ti 40&&(sa tc 40&&sa tx 40)))=true)
  (ct:(tp≠tv∧tp≠tn∧tp≠ti∧tv≠tn∧tv≠ti∧tn≠ti)∧look tp bw=none∧look tv bw=none∧look tn bw=none)(aiz:(ti≠tc∧ti≠tx∧ti≠tn∧tv≠tc∧tv≠tx∧tn≠tc∧tn≠tx)∧look ti bw=none∧look tc bw=none∧look tx bw=none)
  (AQ:ik Ab.L T f=some off)(ht2:Ab.L T2=some NJ)(F6:NJ.k= .slice e2)(Nh:NJ.size=1)
  (hb:look tb bw=some (.pointer (some ⟨B,0,none⟩)))(hB:Bx E w B e row)(hS:row[off]? =some (py E r row2))(hf:mO 40 a bw)(h:gH E r w0 w∧Lk E wb w)
  (aoi: ∀A m c i a1 w1,i<m→py E r row2 (.slice A m c)→mO 40 a1 (cT ti (.int .i64 i) (cT tn (.int .i64 m) (cT tv (.slice A m c) bw)))→gH E r w0 w1∧Lk E wb w1→
   body.wpIn (WF none) 0 PP (NE fun a' w'=>mO 40 a' (cT ti (.int .i64 i) (cT tn (.int .i64 m) (cT tv (.slice A m c) bw)))∧gH E r w0 w'∧Lk E wb w') a1 w1):
  (Code.seq (.region id #[o1,o2,o3,o4] false) (Code.block k (Code.loop ((Code.region g1 #[q1] false).seq ((Code.cond (.tmp tc) .skip (.exit k)).seq ((Code.block k1 body).seq (Code.region g2 #[q2,q3] false))))))).wpIn (WF none) 0 PP (NE fun a' w'=>mO 40 a' bw∧gH E r w0 w'∧Lk E wb w') a w:=by
 obtain⟨e1,ys,e2,e3,e4⟩:=hB;have Pb:off<ys.length:=by rw[e3];exact(bh.1 hS).1
 have hy:ys[off]? =some ys[off]:=fp Pb
 have SI:=e4 off _ _ hS hy
 generalize ys[off]=v at hy SI;have atA:=SI
 obtain⟨A,m,c,rfl,hm,_⟩:=SI;rw[Bool.and_eq_true]at aV;obtain⟨⟨m1,m2,m3,m4,m5,m6⟩,m7,m8,m9⟩:=ct;obtain⟨⟨n1,n2,n3,n4,n5,n6,n7⟩,n8,n9,BW⟩:=aiz;have up: ∀{d:Nat},tv≠d→tn≠d→look d bw=none→look d (cT tn (Value.int .i64 m) (cT tv (.slice A m c) bw))=none:=fun ha hb hc=>by rw[aF,if_neg hb,aF,if_neg ha];exact hc
 refine RE (R1:=fun a' w'=>w'=w∧mO 40 a' (cT ti (.int .i64 0) (cT tn (.int .i64 m) (cT tv (.slice A m c) bw)))) ?_ ?_
 ·exact SX lay h1 h2 h3 jh h4 aV.1 ⟨m1,m2,m3,m4,m5,m6,m7,m8,m9⟩ AQ ht2 F6 Nh hb e2 hy hf fun a' f=>⟨rfl,f⟩
 ·rintro a1 w1 ⟨rfl,f⟩
  refine wpIn_mono (am3 (J:=fun w'=>gH E r w0 w'∧Lk E wb w') j1 j2 j3 aV.2 (bR _ _ _) hm ⟨up m5 m6 n8,up n4 n6 n9,up n5 n7 BW,n1,n2,n3⟩ f h fun i a w hi hf hJ=>?_) fun e a2 w2 hq=>?_
  ·exact aoi A m c i a w hi atA hf hJ
  ·obtain⟨rfl,f1,f2⟩:=hq;exact⟨rfl,qv (qv f1 (by rw[aF,if_neg m4];exact m9)) m8,f2⟩
theorem S6{f:Nat}{fn:Func}{c:Code}(hf:PP.funcs[f]? =some fn)(hb:fn.body=some c)(hn:fn.ntmps=n)(hr:fn.results= #[]){vs:Array Value}{J:World→Prop}
  (h:c.wpIn (WF none) 0 PP (NE fun a' w'=>mO n a' []∧J w') {tmps:=vs++Array.replicate (n - vs.size) undef,defers:=[]} w):Calls PP f vs w fun e w'=>e= .returned (.tuple #[])∧J w':=by
 subst hn;refine(callsIn_wide (n:=0)).1 (callsIn_of_wp_marks (F:=Fence.wide) hf hb trivial ?_ rfl);refine wpIn_mono (F:=Fence.wide) h fun e a' w' hq=>?_;obtain⟨rfl,⟨_,f0,_⟩,f2⟩:=hq;show LeavesInM _ _ _ _ _ _ a'.defers _ _;rw[f0];refine⟨.tuple #[],?_,rfl,f2⟩;simp[results,hr,go_sem]
theorem auX:ov PP 25:=enters Go.Proofs.Tryz.func25 (c:=c25) (by kernel_rfl) (by kernel_rfl)
theorem bk{α:Type}(d:Nat):look d ([]:List (Nat×α))=none:=rfl
theorem RB:MZ PP 25 Q2:=by
 intro E w r xs x hQ hr hh hw hx;obtain⟨r',xs',hq1,hq2⟩:=hQ;cases hq1;obtain⟨v,rfl,hv⟩: ∃v,x= .agg #[v]∧py E r (Ct E r) v:=by
  cases hx with
  |agg _ ys hl hq=>
   match ys,hl with
   |[v],_=>exact⟨v,rfl,aki hq2 (hq 0 _ v rfl rfl)⟩
 have start:mO 40 {tmps:= #[Value.agg #[v]]++Array.replicate (40 - (#[Value.agg #[v]]:Array Value).size) undef,defers:=[]} [(0,.agg #[v])]:=by
  refine⟨by simp,by trivial,fun d x hd=>?_⟩;rw[aC]at hd;by_cases h0:0=d
  ·subst h0;rw[if_pos rfl]at hd;cases hd;simp[Array.getD_eq_getD_getElem?]
  ·rw[if_neg h0]at hd;cases hd
 have QH: ∀{e:Ending} {w':World},(e= .returned (.tuple #[])∧gH E r w w')→e= .returned (.tuple #[])∧ly E r w w':=fun hq=>⟨hq.1,hq.2.spoilt⟩
 refine(S6 (n:=40) (J:=fun w'=>gH E r w w') Go.Proofs.Tryz.func25 (c:=c25) (by kernel_rfl) rfl rfl ?_).mono fun e w'=>QH;refine RE (R1:=fun a' w'=> ∃B,Bx E w' B 24 [py E r (Ct E r)]∧mO 40 a' [(1,.pointer (some ⟨B,0,none⟩))]∧gH E r w w') ?_ ?_
 ·refine aai ?_;refine alP start (v:= .agg #[v]) (d:=1) (x:=0) rfl rfl rfl rfl rfl fun a1 f1=>?_;refine wpListIn_nil ⟨rfl,w.heap.size,⟨by rw[hh];exact Nat.le_refl _,[v],?_,rfl,fun q S y h1 h2=>?_⟩,f1.sub fun d x hd=>?_,(gH.refl hh).alloc _⟩
  ·rw[IJ];simp[Value.cells]
  ·match q,h1,h2 with
   |0,h1,h2=>cases h1;cases h2;exact hv
  ·rw[aF];rw[aC]at hd;by_cases h0:1=d
   ·rw[if_pos h0]at hd ⊢;exact hd
   ·rw[if_neg h0]at hd;cases hd
 rintro a1 w1 ⟨B0,hB0,f1,hI1⟩
 refine wpIn_mono (Q:=NE fun a' w'=>mO 40 a' [(1,.pointer (some ⟨B0,0,none⟩))]∧gH E r w w'∧Lk E w1 w') ?_ ?_
 case refine_2=>intro e a' w' hq;exact⟨hq.1,hq.2.1.sub fun d x hd=>(by cases hd),hq.2.2.1⟩
 refine RE (R1:=fun a' w'=>mO 40 a' [(1,.pointer (some ⟨B0,0,none⟩))]∧gH E r w w'∧Lk E w1 w') ?_ fun a2 w2 SG=>?_
 rotate_left
 ·exact Ky hw hr (row:=[py E r (Ct E r)]) (row2:=Ct E r) ⟨rfl,rfl,rfl⟩ ⟨rfl,rfl,rfl⟩ ⟨rfl,rfl,rfl⟩ ⟨rfl,rfl,rfl⟩ rfl ⟨by simp[aF,aC,bk],by simp[aF,aC,bk]⟩ rfl rfl rfl rfl rfl rfl (fun q S z h1 h2 u hu=>by
   match q,h1,h2 with
   |0,h1,h2=>cases h1;cases h2;exact Y8 hu
   |1,h1,h2=>cases h1;cases h2;exact Nm hu
   |2,h1,h2=>cases h1;cases h2;exact hu.zk) (by rfl) (hB0.mono SG.2.2) rfl Yb SG.1 SG.2
 refine TX (row:=[py E r (Ct E r)]) (row2:=Ct E r) ⟨rfl,rfl,rfl⟩ ⟨rfl,rfl,rfl⟩ ⟨rfl,rfl,rfl⟩ ⟨rfl,rfl,rfl⟩ ⟨rfl,rfl,rfl⟩ ⟨rfl,rfl,rfl⟩ ⟨rfl,rfl,rfl⟩ ⟨rfl,rfl,rfl⟩ rfl (by refine⟨by decide,?_,?_,?_⟩<;>simp[aF,aC,bk]) (by refine⟨by decide,?_,?_,?_⟩<;>simp[aF,aC,bk]) rfl rfl rfl rfl (by rfl) hB0 rfl f1 ⟨hI1,.refl⟩ fun A m c i a3 w3 hi SI f3 hJ3=>?_;refine XP hw (row:=Ct E r) ⟨rfl,rfl,rfl⟩ ⟨rfl,rfl,rfl⟩ ⟨rfl,rfl,rfl⟩ ⟨rfl,rfl,rfl⟩ rfl (by refine⟨by decide,by decide,?_,?_,by decide⟩<;>simp[aF,aC,bk]) (by simp[aF,aC,bk]) rfl rfl rfl rfl (by simp[aF,aC,bk]) (by simp[aF,aC,bk]) hi SI Yb f3 hJ3 fun a4 w4 B1 hB1 f4 hI4=>?_;refine RE (R1:=fun a' w'=>mO 40 a' (cT 3 (.pointer (some ⟨B1,0,none⟩)) (cT 11 (.int .i64 i) (cT 10 (.int .i64 m) (cT 9 (.slice A m c) [(1,.pointer (some ⟨B0,0,none⟩))]))))∧gH E r w w'∧Lk E w4 w') ?_ fun a5 w5 hq5=>?_
 rotate_left
 ·exact Ky hw hr (row:=Ct E r) (row2:=Hq E r) ⟨rfl,rfl,rfl⟩ ⟨rfl,rfl,rfl⟩ ⟨rfl,rfl,rfl⟩ ⟨rfl,rfl,rfl⟩ rfl ⟨by simp[aF,aC,bk],by simp[aF,aC,bk]⟩ rfl rfl rfl rfl rfl rfl (fun q S z h1 h2 u hu=>by
   match q,h1,h2 with
   |0,h1,h2=>cases h1;cases h2;exact Y8 hu
   |1,h1,h2=>cases h1;cases h2;exact Nm hu
   |2,h1,h2=>cases h1;cases h2;exact hu.zk
   |3,h1,h2=>cases h1;cases h2;exact Nm hu) (by simp[aF,aC,bk]) (hB1.mono hq5.2.2) rfl X6 hq5.1 hq5.2
 refine TX (row:=Ct E r) (row2:=Hq E r) ⟨rfl,rfl,rfl⟩ ⟨rfl,rfl,rfl⟩ ⟨rfl,rfl,rfl⟩ ⟨rfl,rfl,rfl⟩ ⟨rfl,rfl,rfl⟩ ⟨rfl,rfl,rfl⟩ ⟨rfl,rfl,rfl⟩ ⟨rfl,rfl,rfl⟩ rfl (by refine⟨by decide,?_,?_,?_⟩<;>simp[aF,aC,bk]) (by refine⟨by decide,?_,?_,?_⟩<;>simp[aF,aC,bk]) rfl rfl rfl rfl (by simp[aF,aC,bk]) hB1 rfl f4 ⟨hI4,.refl⟩ fun A1 m1 c1 i1 a6 w6 hi1 atz f6 hJ6=>?_;refine XP hw (row:=Hq E r) ⟨rfl,rfl,rfl⟩ ⟨rfl,rfl,rfl⟩ ⟨rfl,rfl,rfl⟩ ⟨rfl,rfl,rfl⟩ rfl (by refine⟨by decide,by decide,?_,?_,by decide⟩<;>simp[aF,aC,bk]) (by simp[aF,aC,bk]) rfl rfl rfl rfl (by simp[aF,aC,bk]) (by simp[aF,aC,bk]) hi1 atz X6 f6 hJ6 fun a7 w7 B2 hB2 f7 hI7=>?_;refine RE (R1:=fun a' w'=>mO 40 a' (cT 5 (.pointer (some ⟨B2,0,none⟩)) (cT 18 (.int .i64 i1) (cT 17 (.int .i64 m1) (cT 16 (.slice A1 m1 c1) (cT 3 (.pointer (some ⟨B1,0,none⟩)) (cT 11 (.int .i64 i) (cT 10 (.int .i64 m) (cT 9 (.slice A m c) [(1,.pointer (some ⟨B0,0,none⟩))]))))))))∧gH E r w w'∧Lk E w7 w') ?_ fun a8 w8 hq8=>?_
 rotate_left
 ·exact Ky hw hr (row:=Hq E r) (row2:=JT E r) ⟨rfl,rfl,rfl⟩ ⟨rfl,rfl,rfl⟩ ⟨rfl,rfl,rfl⟩ ⟨rfl,rfl,rfl⟩ rfl ⟨by simp[aF,aC,bk],by simp[aF,aC,bk]⟩ rfl rfl rfl rfl rfl rfl (fun q S z h1 h2 u hu=>by
   match q,h1,h2 with
   |0,h1,h2=>cases h1;cases h2;exact Nm hu
   |1,h1,h2=>cases h1;cases h2;exact Y8 hu
   |2,h1,h2=>cases h1;cases h2;exact Nm hu
   |3,h1,h2=>cases h1;cases h2;exact hu.zk) (by simp[aF,aC,bk]) (hB2.mono hq8.2.2) rfl V2 hq8.1 hq8.2
 refine TX (row:=Hq E r) (row2:=JT E r) ⟨rfl,rfl,rfl⟩ ⟨rfl,rfl,rfl⟩ ⟨rfl,rfl,rfl⟩ ⟨rfl,rfl,rfl⟩ ⟨rfl,rfl,rfl⟩ ⟨rfl,rfl,rfl⟩ ⟨rfl,rfl,rfl⟩ ⟨rfl,rfl,rfl⟩ rfl (by refine⟨by decide,?_,?_,?_⟩<;>simp[aF,aC,bk]) (by refine⟨by decide,?_,?_,?_⟩<;>simp[aF,aC,bk]) rfl rfl rfl rfl (by simp[aF,aC,bk]) hB2 rfl f7 ⟨hI7,.refl⟩ fun A2 m2 c2 i2 a9 w9 hi2 aty f9 hJ9=>?_;refine XP hw (row:=JT E r) ⟨rfl,rfl,rfl⟩ ⟨rfl,rfl,rfl⟩ ⟨rfl,rfl,rfl⟩ ⟨rfl,rfl,rfl⟩ rfl (by refine⟨by decide,by decide,?_,?_,by decide⟩<;>simp[aF,aC,bk]) (by simp[aF,aC,bk]) rfl rfl rfl rfl (by simp[aF,aC,bk]) (by simp[aF,aC,bk]) hi2 aty V2 f9 hJ9 fun a10 w10 B3 hB3 f10 auy=>?_;exact Ky hw hr (row:=JT E r) (row2:=MX) ⟨rfl,rfl,rfl⟩ ⟨rfl,rfl,rfl⟩ ⟨rfl,rfl,rfl⟩ ⟨rfl,rfl,rfl⟩ rfl ⟨by simp[aF,aC,bk],by simp[aF,aC,bk]⟩ rfl rfl rfl rfl rfl rfl (fun q S z h1 h2 u hu=>by
  match q,h1,h2 with
  |0,h1,h2=>cases h1;cases h2;exact Nm hu) (by simp[aF,aC,bk]) hB3 rfl acS f10 ⟨auy,.refl⟩
end Ab
namespace Ab
open Go
def wQ(P:Program)(t:Nat)(k:VK):Bool:=match P.underlying t,k with
 |some (.int q),.int q'=>q==q'
 |some .string,.str=>true
 |some .bool,.bool=>true
 |_,_=>false
def TD(P:Program):List Field→List VK→Nat→Bool
 |[],[],_=>true
 |f::fs,k::ks,off=>(f.name != "_")&&(bQ f.offset off&&(wQ P f.type k&&TD P fs ks (off+1)))
 |_,_,_=>false
section
variable{P:Program}
theorem qZ{t:Nat}{k:VK}(h:wQ P t k=true):P.plainKey t=true:=by
 unfold wQ at h;unfold Program.plainKey
 split at h<;>first|(cases h;done)|(rename_i hu;rw[hu])
theorem QW{t:Nat}{k:VK}(h:wQ P t k=true)(d:Nat){a b:Value}{r:List VK}{q q':List Value}(ha:bE (k::r) (a::q)=true)(hb:bE (k::r) (b::q')=true): ∃x:Bool,(x=true↔a=b)∧ ∀w,(Op.equalIn (d+1) t a b).run P w= .ok x w:=by
 unfold wQ at h
 split at h
 ·rename_i qk q0 hu;have:qk=q0:=by simpa using h
  subst this;cases a<;>simp[bE]at ha;cases b<;>simp[bE]at hb;rename_i k1 n1 k2 n2;obtain⟨rfl,_⟩:=ha;obtain⟨rfl,_⟩:=hb;exact⟨n1==n2,by simp,fun w=>run_equalIn_int w d t _ _ n1 n2 hu⟩
 ·rename_i hu;cases a<;>simp[bE]at ha;cases b<;>simp[bE]at hb;rename_i s1 s2;refine⟨s1.toList==s2.toList,?_,fun w=>run_equalIn_string w d t s1 s2 hu⟩;rw[←beq_toListBytes];obtain⟨⟨x⟩⟩:=s1;obtain⟨⟨y⟩⟩:=s2;show((⟨x⟩:Array UInt8)==⟨y⟩)=true↔_;simp
 ·rename_i hu;cases a<;>simp[bE]at ha;cases b<;>simp[bE]at hb;rename_i s1 s2;exact⟨s1==s2,by simp,fun w=>run_equalIn_bool w d t s1 s2 hu⟩
 ·cases h
theorem qw{k:VK}{r:List VK}{a:Value}{q:List Value}(h:bE (k::r) (a::q)=true):bE r q=true:=by
 cases k<;>cases a<;>simp_all [bE]
theorem wg(d:Nat)(xs ys:Array Value): ∀(fs:List Field) (ks:List VK) (off:Nat) (xr yr:List Value),TD P fs ks off=true→bE ks xr=true→bE ks yr=true→
  (∀j v,xr[j]? =some v→xs[off+j]? =some v)→(∀j v,yr[j]? =some v→ys[off+j]? =some v)→ ∃b:Bool,(b=true↔xr=yr)∧ ∀w,(Op.eqFields (d+1) xs ys fs).run P w= .ok b w
 |[],[],off,[],[],_,_,_,_,_=>⟨true,by simp,fun w=>by simp[Op.eqFields]⟩
 |f::fs,k::ks,off,a::xr,b::yr,h,hx,hy,gx,gy=>by
  simp only[TD,Bool.and_eq_true,bne_iff_ne,ne_eq]at h;obtain⟨h1,h2,h3,h4⟩:=h;have h2:=cY h2
  obtain⟨r,hr1,YT⟩:=QW h3 d hx hy;obtain⟨r',hr3,hr4⟩:=wg d xs ys fs ks (off+1) xr yr h4 (qw hx) (qw hy) (fun j v hj=>by have:=gx (j+1) v (by simpa using hj);rwa [show off+1+j=off+(j+1)by omega]) (fun j v hj=>by have:=gy (j+1) v (by simpa using hj);rwa [show off+1+j=off+(j+1)by omega]);have p1: ∀w,(Go.part f.type xs f.offset).run P w= .ok a w:=fun w=>run_part_plain w (qZ h3) (by rw[h2];exact gx 0 a rfl)
  have p2: ∀w,(Go.part f.type ys f.offset).run P w= .ok b w:=fun w=>run_part_plain w (qZ h3) (by rw[h2];exact gy 0 b rfl)
  cases r with
  |false=>
   refine⟨false,?_,fun w=>by simp[Op.eqFields,h1,Sem.run_bind,p1,p2,YT,Result.andThen]⟩;constructor
   ·intro h;cases h
   ·intro h;injection h with e1 _;exact absurd (hr1.2 e1) (by simp)
  |true=>
   refine⟨r',?_,fun w=>by simp[Op.eqFields,h1,Sem.run_bind,p1,p2,YT,hr4,Result.andThen]⟩;rw[hr3,hr1.1 rfl];simp
 |[],_::_,_,_,_,h,_,_,_,_=>by simp[TD]at h
 |_::_,[],_,_,_,h,_,_,_,_=>by simp[TD]at h
 |_::_,k::_,_,[],_,_,hx,_,_,_=>by cases k<;>simp[bE]at hx
 |_::_,k::_,_,_::_,[],_,_,hy,_,_=>by cases k<;>simp[bE]at hy
 |[],[],_,_::_,_,_,hx,_,_,_=>by simp[bE]at hx
 |[],[],_,[],_::_,_,_,hy,_,_=>by simp[bE]at hy
theorem yy(d:Nat){e:Nat}{k:VK}(hk:wQ P e k=true)(hc:P.cellsOf e=1)(xs ys:Array Value): ∀(n off:Nat) (xr yr:List Value),bE (List.replicate n k) xr=true→bE (List.replicate n k) yr=true→
  (∀j v,xr[j]? =some v→xs[off+j]? =some v)→(∀j v,yr[j]? =some v→ys[off+j]? =some v)→ ∃b:Bool,(b=true↔xr=yr)∧ ∀w,(Op.eqItems (d+1) e 1 xs ys (List.range' off n)).run P w= .ok b w
 |0,off,[],[],_,_,_,_=>⟨true,by simp,fun w=>by simp[Op.eqItems]⟩
 |n+1,off,a::xr,b::yr,hx,hy,gx,gy=>by
  rw[List.replicate_succ]at hx hy;obtain⟨r,hr1,YT⟩:=QW hk d hx hy;obtain⟨r',hr3,hr4⟩:=yy d hk hc xs ys n (off+1) xr yr (qw hx) (qw hy) (fun j v hj=>by have:=gx (j+1) v (by simpa using hj);rwa [show off+1+j=off+(j+1)by omega]) (fun j v hj=>by have:=gy (j+1) v (by simpa using hj);rwa [show off+1+j=off+(j+1)by omega]);have p1: ∀w,(Go.part e xs (off*1)).run P w= .ok a w:=fun w=>run_part_plain w (qZ hk) (by rw[Nat.mul_one];exact gx 0 a rfl)
  have p2: ∀w,(Go.part e ys (off*1)).run P w= .ok b w:=fun w=>run_part_plain w (qZ hk) (by rw[Nat.mul_one];exact gy 0 b rfl)
  rw[List.range'_succ];cases r with
  |false=>
   refine⟨false,?_,fun w=>by rw[Op.eqItems];simp only[Sem.run_bind,p1,p2,YT,Result.andThen];simp⟩;constructor
   ·intro h;cases h
   ·intro h;injection h with e1 _;exact absurd (hr1.2 e1) (by simp)
  |true=>
   refine⟨r',?_,fun w=>by rw[Op.eqItems];simp only[Sem.run_bind,p1,p2,YT,Result.andThen];simpa using hr4 w⟩;rw[hr3,hr1.1 rfl];simp
 |0,_,_::_,_,hx,_,_,_=>by simp[bE]at hx
 |0,_,[],_::_,_,hy,_,_=>by simp[bE]at hy
 |n+1,_,[],_,hx,_,_,_=>by rw[List.replicate_succ]at hx;cases k<;>simp[bE]at hx
 |n+1,_,_::_,[],_,hy,_,_=>by rw[List.replicate_succ]at hy;cases k<;>simp[bE]at hy
theorem EW{t:Nat}{ks:List VK}(ht:P.underlying t=some (.struct (P.fieldsOf t)))(hp:P.stoodInHeld t=false)(hf:TD P (P.fieldsOf t).toList ks 0=true)(hg:P.eqGuardType P.depth t=false):vJ P t ks:=
 ⟨(fun xs ys hx hy=>by
  obtain⟨b,h1,h2⟩:=wg (P:=P) 9998 xs.toArray ys.toArray _ ks 0 xs ys hf hx hy (fun j v h=>by simpa using h) (fun j v h=>by simpa using h);exact⟨b,h1,fun w=>(run_equalIn_struct w 9999 t _ _ ht hp).trans (h2 w)⟩),hg⟩
theorem IG{t e n:Nat}{k:VK}{i:TypeInfo}(ht:P.underlying t=some (.array n e))(hi:P.info? e=some i)(hk:wQ P e k=true)(hc:P.cellsOf e=1)(hg:P.eqGuardType P.depth t=false):vJ P t (List.replicate n k):=
 ⟨(fun xs ys hx hy=>by
  obtain⟨b,h1,h2⟩:=yy (P:=P) 9998 hk hc xs.toArray ys.toArray n 0 xs ys hx hy (fun j v h=>by simpa using h) (fun j v h=>by simpa using h);refine⟨b,h1,fun w=>?_⟩;rw[run_equalIn_array w 9999 _ _ ht hi,hc,List.range_eq_range'];exact h2 w),hg⟩
theorem Ff{ks:List VK}{kv:List Value}(h:bE ks kv=true):Instr.sameBits 10000 (gE kv) (gE kv)=true:=by
 have cell: ∀{ks:List VK} {kv:List Value},bE ks kv=true→ ∀x∈kv,∀n,Instr.sameBits (n+1) x x=true:=by
  intro ks kv h
  induction kv generalizing ks with
  |nil=>intro x hx;cases hx
  |cons y r ih=>
   cases ks with
   |nil=>simp[bE]at h
   |cons k ks=>
    intro x hx n;rcases List.mem_cons.1 hx with rfl|hx
    ·cases k<;>cases x<;>simp_all [bE,Instr.sameBits];all_goals(rw[beq_toListBytes];simp)
    ·exact ih (qw h) x hx n
 have hz: ∀(l:List Value),(∀x∈l,Instr.sameBits 9999 x x=true)→((l.zip l).all fun(x,y)=>Instr.sameBits 9999 x y)=true:=fun l hl=>by
  induction l with
  |nil=>rfl
  |cons a r ih=>simp only[List.zip_cons_cons,List.all_cons,Bool.and_eq_true];exact⟨hl a (by simp),ih fun x hx=>hl x (by simp[hx])⟩
 match kv,h with
 |[x],h=>exact cell h x (by simp) 9999
 |[],_=>rfl
 |x::y::r,h=>
  show Instr.sameBits 10000 (.agg (x::y::r).toArray) (.agg (x::y::r).toArray)=true;rw[Instr.sameBits];simp only[BEq.rfl,Bool.true_and];exact hz _ fun z hz=>cell h z hz 9998
theorem aba{t:Nat}{q:IntKind}(hu:P.underlying t=some (.int q)):KeyLaw P t [.int q]:=by
 have jM: ∀kv,bE [.int q] kv=true→ ∃n,kv=[.int q n]:=fun kv h=>by
  match kv,h with
  |[x],h=>cases x<;>simp[bE]at h;exact⟨_,by rw[h]⟩
  |[],h=>simp[bE]at h
  |x::y::r,h=>cases x<;>simp[bE]at h
 refine⟨fun kv h b w=>?_,fun kv es h F8 w=>?_,fun kv h=>Ff h⟩
 ·obtain⟨n,rfl⟩:=jM kv h;show(Instr.checkKey b (9999+1) t (.int q n)).run P w=_;rw[Instr.checkKey];simp[Sem.run_bind,run_underlying hu,Result.andThen]
 ·obtain⟨n,rfl⟩:=jM kv h;have aiy: ∀(es:List MapEntry) (i:Nat),(∀e∈es,∃Br,bE [.int q] Br=true∧e.key=gE Br)→Instr.findNow (.int q) (.int q n) es i=some (lr (.int q n) es i):=by
   intro es
   induction es with
   |nil=>intro i _;rfl
   |cons e r ih=>
    intro i F8;obtain⟨Br,h1,h2⟩:=F8 e (by simp);obtain⟨m,rfl⟩:=jM Br h1;have h2:e.key= .int q m:=h2
    unfold Instr.findNow lr;rw[h2];simp only[Instr.sameNow,if_true];by_cases YU:n=m
    ·subst YU;simp
    ·have ct: ¬(Value.int q m=Value.int q n):=fun e=>by injection e with _ e;exact YU e.symm
     rw[if_neg ct];have:(n==m)=false:=by simpa using YU
     rw[this];exact ih (i+1) fun e he=>F8 e (by simp[he])
  simp only[gE];simp[Instr.findKey,Sem.run_bind,run_underlying hu,Result.andThen,aiy es 0 F8]
theorem Dl{b:Bool}(d:Nat)(xs:Array Value): ∀(fs:List Field) (ks:List VK) (off:Nat) (xr:List Value),TD P fs ks off=true→bE ks xr=true→(∀j v,xr[j]? =some v→xs[off+j]? =some v)→
  ∀w,(forIn fs PUnit.unit fun f _=>(if f.name≠ "_" then do
    let x←Go.part f.type xs f.offset
    Instr.checkKey b (d+1) f.type x
    pure (ForInStep.yield PUnit.unit)
   else pure (ForInStep.yield PUnit.unit)):Sem PUnit).run P w= .ok PUnit.unit w
 |[],[],off,[],_,_,_,w=>by simp
 |f::fs,k::ks,off,a::xr,h,hx,gx,w=>by
  simp only[TD,Bool.and_eq_true,bne_iff_ne,ne_eq]at h;obtain⟨h1,h2,h3,h4⟩:=h;have h2:=cY h2
  have p1: ∀w,(Go.part f.type xs f.offset).run P w= .ok a w:=fun w=>run_part_plain w (qZ h3) (by rw[h2];exact gx 0 a rfl)
  have ih:=Dl (b:=b) d xs fs ks (off+1) xr h4 (qw hx) (fun j v hj=>by have:=gx (j+1) v (by simpa using hj);rwa [show off+1+j=off+(j+1)by omega]) w
  have Nj: ∀w,(Instr.checkKey b (d+1) f.type a).run P w= .ok () w:=fun w=>by
   unfold wQ at h3
   split at h3
   ·rename_i q q' hu;cases a<;>simp[bE]at hx;simp[Instr.checkKey,Sem.run_bind,run_underlying hu,Result.andThen]
   ·rename_i hu;cases a<;>simp[bE]at hx;simp[Instr.checkKey,Sem.run_bind,run_underlying hu,Result.andThen]
   ·rename_i hu;cases a<;>simp[bE]at hx;simp[Instr.checkKey,Sem.run_bind,run_underlying hu,Result.andThen]
   ·cases h3
  simp only[List.forIn_cons,Sem.run_bind,h1,ne_eq,not_false_eq_true,if_true,p1,Result.andThen,Nj,Sem.run_pure];exact ih
 |[],_::_,_,_,h,_,_,_=>by simp[TD]at h
 |_::_,[],_,_,h,_,_,_=>by simp[TD]at h
 |_::_,k::_,_,[],_,hx,_,_=>by cases k<;>simp[bE]at hx
 |[],[],_,_::_,_,hx,_,_=>by simp[bE]at hx
theorem NN{t:Nat}{ks:List VK}(hlen:2≤ks.length)(ht:P.underlying t=some (.struct (P.fieldsOf t)))(hp:P.stoodInHeld t=false)(hf:TD P (P.fieldsOf t).toList ks 0=true)(hg:P.eqGuardType P.depth t=false):KeyLaw P t ks:=by
 have jM: ∀kv,bE ks kv=true→gE kv= .agg kv.toArray:=fun kv h=>by
  have:=jv h
  match kv,this with
  |[],h=>simp at h;omega
  |[x],h=>simp at h;omega
  |x::y::r,_=>rfl
 have heq:=(EW ht hp hf hg).eq
 refine⟨fun kv h b w=>?_,fun kv es h F8 w=>?_,fun kv h=>Ff h⟩
 ·rw[jM kv h];have:=Dl (P:=P) (b:=b) 9998 kv.toArray _ ks 0 kv hf h (fun j v hj=>by simpa using hj) w
  show(Instr.checkKey b (9999+1) t (.agg kv.toArray)).run P w=_;rw[Instr.checkKey];simp only[Sem.run_bind,run_underlying ht,Result.andThen];rw[←Array.forIn_toList]
  split
  ·rename_i h;cases this.symm.trans h;rfl
  ·rename_i h;cases this.symm.trans h
 ·rw[jM kv h];have aus: ∀(es:List MapEntry) (i:Nat),(∀e∈es,∃Br,bE ks Br=true∧e.key=gE Br)→(Instr.findAsking t (.agg kv.toArray) es i).run P w= .ok (lr (.agg kv.toArray) es i) w:=by
   intro es
   induction es with
   |nil=>intro i _;simp[Instr.findAsking,lr]
   |cons e r ih=>
    intro i F8;obtain⟨Br,h1,h2⟩:=F8 e (by simp);rw[jM Br h1]at h2;obtain⟨b,ye,DO⟩:=heq kv Br h h1;have ih':=ih (i+1) fun e he=>F8 e (by simp[he])
    unfold lr;have an9:(e.key=Value.agg kv.toArray)↔b=true:=by
     rw[h2,ye];constructor
     ·intro e;injection e with e;exact(List.toArray_inj e).symm
     ·intro e;rw[e]
    cases b with
    |true=>rw[if_pos (an9.2 rfl)];simp[Instr.findAsking,h2,Op.equal,Op.maxDepth,DO,Sem.run_bind,Result.andThen]
    |false=>rw[if_neg (fun e=>by have:=an9.1 e;cases this)];simp[Instr.findAsking,h2,Op.equal,Op.maxDepth,DO,Sem.run_bind,Result.andThen,ih']
  cases es with
  |nil=>simp[Instr.findKey,Sem.run_bind,run_underlying ht,Result.andThen,Instr.findNow,lr]
  |cons e r=>
   obtain⟨Br,h1,h2⟩:=F8 e (by simp);have aiy:Instr.findNow (.struct (P.fieldsOf t)) (.agg kv.toArray) (e::r) 0=none:=by simp[Instr.findNow,Instr.sameNow]
   simp only[Instr.findKey,Sem.run_bind,run_underlying ht,Result.andThen,aiy];exact aus (e::r) 0 F8
end
def lQ(t:Nat):Option (List VK):=bif bQ t 3 then some [.int .i64]else bif bQ t 87 then some [.int .i64,.str,.int .i64]else none
def sO(t:Nat):Option (List VK):=bif bQ t 87 then some [.int .i64,.str,.int .i64]else bif bQ t 122 then some (List.replicate 6 (.int .i64))else bif bQ t 110 then some (List.replicate 12 (.int .i64))else none
theorem QM:PP.eqGuardType PP.depth 87=false:=by kernel_rfl
theorem P4:PP.underlying 87=some (.struct (PP.fieldsOf 87)):=by kernel_rfl
theorem P9:PP.stoodInHeld 87=false:=by kernel_rfl
theorem XB:TD PP (PP.fieldsOf 87).toList [.int .i64,.str,.int .i64] 0=true:=by kernel_rfl
theorem J5: ∀t ks,lQ t=some ks→KeyLaw PP t ks:=fun t ks h=>by
 unfold lQ at h;cases h1:bQ t 3 with
 |true=>
  rw[h1,aE]at h;cases h;rw[cY h1];exact aba (by kernel_rfl)
 |false=>
  rw[h1,aM]at h;cases h2:bQ t 87 with
  |true=>
   rw[h2,aE]at h;cases h;rw[cY h2];exact NN (by simp) P4 P9 XB QM
  |false=>rw[h2,aM]at h;cases h
theorem QV: ∀t ks,sO t=some ks→vJ PP t ks:=fun t ks h=>by
 unfold sO at h;cases h2:bQ t 87 with
 |true=>
  rw[h2,aE]at h;cases h;rw[cY h2];exact EW P4 P9 XB QM
 |false=>
  rw[h2,aM]at h;cases h3:bQ t 122 with
  |true=>
   rw[h3,aE]at h;cases h;rw[cY h3];obtain⟨i,hi⟩:=info_of_underlying (P:=PP) (t:=3) (d:= .int .i64) (by kernel_rfl);exact IG (e:=3) (by kernel_rfl) hi (by kernel_rfl) (by kernel_rfl) (by kernel_rfl)
  |false=>
   rw[h3,aM]at h;cases h4:bQ t 110 with
   |true=>
    rw[h4,aE]at h;cases h;rw[cY h4];obtain⟨i,hi⟩:=info_of_underlying (P:=PP) (t:=3) (d:= .int .i64) (by kernel_rfl);exact IG (e:=3) (by kernel_rfl) hi (by kernel_rfl) (by kernel_rfl) (by kernel_rfl)
   |false=>rw[h4,aM]at h;cases h
end Ab
namespace Ab
open Go
section
variable{α β R S:Type}
def iter(body:(S→Option R)→S→Option R):Nat→S→Option R
 |0,_=>none
 |n+1,s=>body (iter body n) s
def au(l:List α):Int:=l.length
def gI(l:List α)(i:Int):Option α:=if 0≤i then l[i.toNat]? else none
def gK(l:List α)(k:Nat):Option α:=l[k]?
def gN(m:Nat)(i:Int):Option Nat:=if 0≤i∧i<m then some i.toNat else none
def gB(b:ByteArray)(i:Int):Option Int:=if 0≤i then(b[i.toNat]?).map fun c=>(c.toNat:Int)else none
def aQ(b:Nat)(l:List α)(x:α):Option (List α):=if(l.length+1)*b≤70368744177664∧l.length+1≤70368744177664 then some (l++[x])else none
def KE(b:Nat)(l m:List α):Option (List α):=if(l.length+m.length)*b≤70368744177664∧l.length+m.length≤70368744177664 then some (l++m)else none
def DI(b:Nat)(n:Int)(x:α):Option (List α):=if 0≤n∧n≤9223372036854775807∧n*b≤140737488355328 then some (List.replicate n.toNat x)else none
def nO(l:List α)(k:Nat)(x:α):Option (List α):=if k<l.length then some (l.set k x)else none
def Gv(l:List α)(a b:Int):Option (List α):=if 0≤a∧a≤b∧b≤l.length then some ((l.take b.toNat).drop a.toNat)else none
def Gx(l:ByteArray)(a b:Int):Option ByteArray:=if 0≤a∧a≤b∧b≤l.size then some (l.extract a.toNat b.toNat)else none
def lF(b:ByteArray):Int:=b.size
def eQ(n:Nat)(l:List α):Option Unit:=if n=l.length then some ()else none
def fN(g b:Bool)(x:Option α)(d:α):Option α:=bif g==b then x else some d
theorem bnd{o:Option α}{f:α→Option β}{v:β}(h:o.bind f=some v): ∃a,o=some a∧f a=some v:=by
 cases o with
 |none=>cases h
 |some a=>exact⟨a,rfl,h⟩
theorem ag{o:Option α}{f:α→Option β}{v:β}{G:Prop}(h:o.bind f=some v)(k: ∀a,o=some a→f a=some v→G):G:=by
 obtain⟨a,h1,h2⟩:=bnd h;exact k a h1 h2
theorem kZ{α0 α1:Type}{o:Option (α0×α1)}{f:α0×α1→Option β}{v:β}{G:Prop}(h:o.bind f=some v)(k: ∀a0 a1,o=some (a0,a1)→f (a0,a1)=some v→G):G:=by
 obtain⟨⟨a0,a1⟩,h1,h2⟩:=bnd h;exact k a0 a1 h1 h2
theorem aph{α0 α1 α2:Type}{o:Option (α0×α1×α2)}{f:α0×α1×α2→Option β}{v:β}{G:Prop}(h:o.bind f=some v)(k: ∀a0 a1 a2,o=some (a0,a1,a2)→f (a0,a1,a2)=some v→G):G:=by
 obtain⟨⟨a0,a1,a2⟩,h1,h2⟩:=bnd h;exact k a0 a1 a2 h1 h2
theorem Q8{α0 α1 α2 α3 α4:Type}{o:Option (α0×α1×α2×α3×α4)}{f:α0×α1×α2×α3×α4→Option β}{v:β}{G:Prop}(h:o.bind f=some v)(k: ∀a0 a1 a2 a3 a4,o=some (a0,a1,a2,a3,a4)→f (a0,a1,a2,a3,a4)=some v→G):G:=by
 obtain⟨⟨a0,a1,a2,a3,a4⟩,h1,h2⟩:=bnd h;exact k a0 a1 a2 a3 a4 h1 h2
theorem Qt{α0 α1 α2:Type}{a:α0×α1×α2}{f:α0×α1×α2→Option β}{v:β}{G:Prop}(h:(some a).bind f=some v)(k: ∀a0 a1 a2,a=(a0,a1,a2)→f (a0,a1,a2)=some v→G):G:=k a.1 a.2.1 a.2.2 rfl h
theorem letE{a:α}{f:α→Option β}{v:β}{G:Prop}(h:(some a).bind f=some v)(k: ∀x,a=x→f x=some v→G):G:=k a rfl h
theorem aD{g b:Bool}{x:Option α}{d a:α}(h:fN g b x d=some a)(hg:g=b):x=some a:=by
 subst hg;unfold fN at h;simpa using h
theorem NQ{W:St→(Ex→St→Prop)→Prop}{s:St}{Q:Ex→St→Prop}{body:(S→Option R)→S→Option R}{n:Nat}{BG:S}{v:R}(h:iter body n BG=some v)
  (vu:Option (List Fr))(vt:S→List (Nat×AV))(vb:S→List (Nat×Ob))(vg:S→Nat→Option Ob)(vn:S→Nat)(h0:wk s (rn s vu (vt BG) (vb BG) (vg BG) (vn BG)))
  (hr: ∀(R:St→Prop) (m:Nat),(∀(st:S) (s':St),iter body m st=some v→wk s' (rn s vu (vt st) (vb st) (vg st) (vn st))→R s')→ ∀st:S,body (iter body m) st=some v→
   W (rn s vu (vt st) (vb st) (vg st) (vn st)) (Uu R Q)):qD W n s Q:=by
 have key: ∀(n:Nat) (st:S),iter body n st=some v→dL W Q n (rn s vu (vt st) (vb st) (vg st) (vn st)):=fun n=>by
  induction n with
  |zero=>intro st h;cases h
  |succ m ih=>intro st h;exact hr _ m (fun st' s' h1 h2=> .inr ⟨_,h2,ih st' h1⟩) st h
 exact .inr ⟨_,h0,key n BG h⟩
theorem step_loop{W:St→(Ex→St→Prop)→Prop}{s:St}{Q:Ex→St→Prop}{body:(S→Option R)→S→Option R}{n:Nat}{BG:S}{v:R}(h:iter body n BG=some v)
  (vu:Option (List Fr))(vt:S→List (Nat×AV))(vb:S→List (Nat×Ob))(vg:S→Nat→Option Ob)(vn:S→Nat)(h0:wk s (rn s vu (vt BG) (vb BG) (vg BG) (vn BG)))
  (hr: ∀(R:St→Prop) (m:Nat),(∀(st:S) (s':St),iter body m st=some v→wk s' (rn s vu (vt st) (vb st) (vg st) (vn st))→R s')→ ∀st:S,body (iter body m) st=some v→
   W (rn s vu (vt st) (vb st) (vg st) (vn st)) (Uu R Q)):PY W s Q:=⟨n,NQ h vu vt vb vg vn h0 hr⟩
def aoO:List Nat→List (Nat×Ob)→List (Nat×Ob)
 |[],b=>b
 |d::r,b=>aoO r (del d b)
def rm(s:St)(vd:List Nat)(vu:Option (List Fr))(vt:List (Nat×AV))(vb:List (Nat×Ob))(vg:Nat→Option Ob)(vn:Nat):St:=
 {s with t:=T3 vt s.t,b:=T3 vb (aoO vd s.b),g:=vg,nx:=vn,up:=match vu with|none=>s.up|some u=>u}
theorem NR{W:St→(Ex→St→Prop)→Prop}{s:St}{Q:Ex→St→Prop}{body:(S→Option R)→S→Option R}{n:Nat}{BG:S}{v:R}(h:iter body n BG=some v)(vd:List Nat)
  (vu:Option (List Fr))(vt:S→List (Nat×AV))(vb:S→List (Nat×Ob))(vg:S→Nat→Option Ob)(vn:S→Nat)(h0:wk s (rm s vd vu (vt BG) (vb BG) (vg BG) (vn BG)))
  (hr: ∀(R:St→Prop) (m:Nat),(∀(st:S) (s':St),iter body m st=some v→wk s' (rm s vd vu (vt st) (vb st) (vg st) (vn st))→R s')→ ∀st:S,body (iter body m) st=some v→
   W (rm s vd vu (vt st) (vb st) (vg st) (vn st)) (Uu R Q)):qD W n s Q:=by
 have key: ∀(n:Nat) (st:S),iter body n st=some v→dL W Q n (rm s vd vu (vt st) (vb st) (vg st) (vn st)):=fun n=>by
  induction n with
  |zero=>intro st h;cases h
  |succ m ih=>intro st h;exact hr _ m (fun st' s' h1 h2=> .inr ⟨_,h2,ih st' h1⟩) st h
 exact .inr ⟨_,h0,key n BG h⟩
theorem NO{W:St→(Ex→St→Prop)→Prop}{s:St}{Q:Ex→St→Prop}{N:Nat}(h: ∀R:St→Prop,(∀s',qD W N s' Q→R s')→W s (Uu R Q)):qD W (N+1) s Q:=
 .inl (h _ fun _ hs=>hs)
theorem kD{W:St→(Ex→St→Prop)→Prop}{s:St}{Q:Ex→St→Prop}(N:Nat)(h: ∀R:St→Prop,(∀s',qD W N s' Q→R s')→W s (Uu R Q)):PY W s Q:=⟨N+1,NO h⟩
theorem Eh{x c:Bool}{A B:Option R}{v:R}{G1 G2:Prop}(h:(bif c then A else B)=some v)(hx:x=c)(h1:A=some v→G1)(h2:B=some v→G2):(x=true→G1)∧(x=false→G2):=by
 subst hx;exact⟨fun e=>h1 (by subst e;exact h),fun e=>h2 (by subst e;exact h)⟩
variable{M:Md}{I:Pr}{enc:α→List AV}
theorem aJ(hM:M= .al):M.map enc []=[]:=by subst hM;rfl
theorem Qm(hM:M= .al):[]=M.map enc []:=by subst hM;rfl
theorem an(hI:I=al)(hM:M= .al){l:List α}{z:Int}(hz:au l=z):Int.ofNat (I.fR (M.map enc l))=z:=by
 subst hI;subst hM;rw[←hz];simp[al,Md.al,au]
theorem ao(hM:M= .al){l:List α}{n:Int}{x:α}(hx:gI l n=some x){k:Nat}(hk:(enc x).length=k):0≤n∧(M.map enc l)[n.toNat]? =some (enc x)∧(enc x).length=k:=by
 subst hM;unfold gI at hx
 split at hx
 ·rename_i h0;refine⟨h0,?_,hk⟩;show(List.map enc l)[n.toNat]? =_;rw[List.getElem?_map,hx];rfl
 ·cases hx
theorem gG(hI:I=al)(hM:M= .al){l:List α}{n:Int}{k:Nat}(hk:gN (M.ln l) n=some k):I.within n (M.ln l)∧I.nat n=k:=by
 subst hI;subst hM;unfold gN at hk
 split at hk
 ·rename_i h;exact⟨h,oJ hk⟩
 ·cases hk
theorem bA(hM:M= .al){l:List α}{k:Nat}{x:α}(hx:gK l k=some x):(M.map enc l)[k]? =some (enc x):=by
 subst hM;show(List.map enc l)[k]? =_;rw[List.getElem?_map];unfold gK at hx;rw[hx];rfl
theorem PG{C:dx}(hI:C.I=al)(hM:M= .al){ti:TI}{l m l':List α}(hx:KE ti.bytes l m=some l')(he: ∀y,(enc y).length=ti.size)(h1:mM 1 ti.size=true)(ho: ∀y,oh (enc y)=true):
  Yj C ti (M.map enc l) (M.map enc m) (M.map enc l'):=by
 subst hM;unfold KE at hx
 split at hx
 ·rename_i hr;cases hx;refine⟨⟨?_,h1,?_,fun c hc=>?_⟩,fun c hc=>?_,?_⟩
  ·rw[hI];show(_∧_);simp only[al,Md.al,List.length_map];exact hr
  ·simp only[Md.al];clear hr
   induction m with
   |nil=>rfl
   |cons y r ih=>simp only[List.map_cons,ep,ho,ih,Bool.and_true]
  ·simp only[Md.al,List.mem_map]at hc;obtain⟨y,_,rfl⟩:=hc;exact he y
  ·simp only[Md.al,List.mem_map]at hc;obtain⟨y,_,rfl⟩:=hc;exact he y
  ·rw[hI];simp[al,Md.al]
 ·cases hx
theorem VV{b:Nat}{l l':List α}{x:α}(hx:aQ b l x=some l'):KE b l [x]=some l':=hx
theorem ax{C:dx}(hI:C.I=al)(hM:M= .al){ti:TI}{l l':List α}{x:α}(hx:aQ ti.bytes l x=some l')(he: ∀y,(enc y).length=ti.size)(h1:mM 1 ti.size=true)(ho: ∀y,oh (enc y)=true):
  Yj C ti (M.map enc l) (M.map enc [x]) (M.map enc l'):=PG hI hM (VV hx) he h1 ho
theorem gf{C:dx}(hI:C.I=al)(hM:M= .al){ti:TI}{n:Int}{x:α}{l:List α}(hx:DI ti.bytes n x=some l)(h1:1≤ti.size)(he:ti.zero.map AV.v=enc x):
  am1 C ti n n (M.map enc l) (M.ln l):=by
 subst hM;unfold DI at hx
 split at hx
 ·rename_i hr;cases hx;refine⟨h1,rfl,?_,?_,?_⟩
  ·rw[hI];exact hr
  ·rw[hI,he];simp[al,Md.al]
  ·simp[Md.al]
 ·cases hx
theorem mU(hI:I=al)(hM:M= .al){ti:TI}{l l':List α}{k off z:Nat}{x y:α}{cs:List AV}(hy:gK l k=some y)(hx:nO l k x=some l')(hz:off+ti.size≤z)(hi:cr cs=true)(he:bF (enc y) off cs=enc x):
  alF I ti (M.map enc l) k off z z cs (M.map enc l'):=by
 subst hI;subst hM;unfold nO at hx
 split at hx
 ·cases hx;refine⟨enc y,rfl,?_,hz,hi,?_⟩
  ·show(List.map enc l)[k]? =_;rw[List.getElem?_map];unfold gK at hy;rw[hy];rfl
  ·rw[he];show(List.map enc l).set k (enc x)=_;rw[←List.map_set];rfl
 ·cases hx
theorem Kw(hI:I=al)(hM:M= .al){l l':List α}{a b:Int}{k:Nat}(hx:Gv l a b=some l')(he: ∀y,(enc y).length=k):
  (I.ny a b (I.fR (M.map enc l))∧ ∀cs∈M.map enc l,cs.length=k)∧I.DW (M.map enc l) a b=M.map enc l':=by
 subst hI;subst hM;unfold Gv at hx
 split at hx
 ·rename_i hr;cases hx;refine⟨⟨?_,fun c hc=>?_⟩,?_⟩
  ·show 0≤a∧a≤b∧b≤((List.map enc l).length:Int);rw[List.length_map];exact hr
  ·simp only[Md.al,List.mem_map]at hc;obtain⟨y,_,rfl⟩:=hc;exact he y
  ·simp[al,Md.al,List.map_take,List.map_drop]
 ·cases hx
theorem acF(hI:I=al)(hM:M= .al){l l':List α}{a:Int}{k:Nat}(hx:Gv l a (au l)=some l')(he: ∀y,(enc y).length=k):
  (I.ny a (Int.ofNat (I.fR (M.map enc l))) (I.fR (M.map enc l))∧ ∀cs∈M.map enc l,cs.length=k)∧I.DW (M.map enc l) a (Int.ofNat (I.fR (M.map enc l)))=M.map enc l':=by
 have:=Kw (enc:=enc) hI hM hx he
 rw[←an (enc:=enc) hI hM (rfl:au l=_)]at this;exact this
theorem gS(hI:I=al){b:ByteArray}{z:Int}(hz:lF b=z):Int.ofNat (I.Py b)=z:=by
 subst hI;rw[←hz];rfl
theorem Kx(hI:I=al){b b':ByteArray}{l h:Int}(hx:Gx b l h=some b'):I.ny l h (I.Py b)∧I.Kv b l h=b':=by
 subst hI;unfold Gx at hx
 split at hx
 ·rename_i hr;cases hx;exact⟨hr,rfl⟩
 ·cases hx
theorem Gw(hI:I=al){b b':ByteArray}{l:Int}(hx:Gx b l (lF b)=some b'):I.ny l (Int.ofNat (I.Py b)) (I.Py b)∧I.Kv b l (Int.ofNat (I.Py b))=b':=by
 have:=Kx hI hx
 rw[←gS hI (rfl:lF b=_)]at this;exact this
theorem oF{b:ByteArray}{n z:Int}(hx:gB b n=some z):0≤n∧ ∃c:UInt8,b[n.toNat]? =some c∧(c.toNat:Int)=z:=by
 unfold gB at hx
 split at hx
 ·rename_i h0;cases hc:b[n.toNat]? with
  |none=>rw[hc]at hx;cases hx
  |some c=>rw[hc]at hx;cases hx;exact⟨h0,c,rfl,rfl⟩
 ·cases hx
theorem aaX(hM:M= .al){l0 l:List α}{r:Nat}{u:Unit}(h:eQ (M.ln l0) l=some u):AV.sl r ((M.map enc l).take (M.ln l0))=AV.sl r (M.map enc l):=by
 subst hM;unfold eQ at h
 split at h
 ·rename_i hl;rw[hl];congr 1;exact List.take_of_length_le (by simp[Md.al])
 ·cases h
theorem eb(a:AV):P0 a a:=by
 cases a with
 |v x=>
  cases x with
  |slice A n c=>
   cases A with
   |none=>cases n with
    |zero=>cases c<;>rfl
    |succ n=>rfl
   |some A=>rfl
  |_=>rfl
 |any=>trivial
 |_=>rfl
theorem ak: ∀cs:List AV,wks cs cs
 |[]=>trivial
 |a::r=>⟨eb a,ak r⟩
 mutual
theorem aA: ∀a:AV,KQ a a
  | .agg cs=>by unfold KQ;exact ak cs
  | .gw cs=>by unfold KQ;exact Hx cs
  | .any=>eb .any
  | .v x=>eb (.v x)
  | .sl r xs=>eb (.sl r xs)
  | .gs r t xs=>eb (.gs r t xs)
  | .aR r cs o=>eb (.aR r cs o)
  | .ptr k o=>eb (.ptr k o)
  | .eW k n=>eb (.eW k n)
  | .ca k i o z=>eb (.ca k i o z)
  | .mp i=>eb (.mp i)
  | .nM k=>eb (.nM k)
  | .ar n z xs=>eb (.ar n z xs)
  | .fn f cs=>eb (.fn f cs)
  | .bm f cs=>eb (.bm f cs)
  | .lB r z xs=>eb (.lB r z xs)
theorem Hx: ∀a:List AV,NC a a
  |[]=>trivial
  |a::r=>⟨aA a,Hx r⟩
end
def eSl(M:Md)(r:Nat)(enc:α→List AV)(l:List α):List AV:=[.sl r (M.map enc l)]
theorem cC(hM:M= .al){x:α}{c:List AV}(h:wks c (enc x))(hi:cr (enc x)=true):Pz [c] (M.map enc [x]):=
 ⟨[enc x],⟨⟨h,hi⟩,trivial⟩,by subst hM;rfl⟩
theorem bl0(hM:M= .al):Pz [] (M.map enc []):=⟨[],trivial,by subst hM;rfl⟩
theorem vT(hM:M= .al){l:List α}{cs:List (List AV)}(h:wkL cs (l.map enc)):Pz cs (M.map enc l):=⟨_,h,by subst hM;rfl⟩
end
theorem Cq{L:nK}(hL:bj PP L)(hm:PP.follows .mixedOrders=true){f:Nat}{fn:Func}{c:Code}(hf:PP.funcs[f]? =some fn)(hb:fn.body=some c){args:List AV}{g:Nat→Option Ob}{nx:Nat}{r:AV}{g':Nat→Option Ob}{iP:Nat}(hr:bX r=true)
  (ρ:Nat)(sh:List Nat)(tree:Nat→Tree)(dead:Nat→List Nat)(op:List Nat)(cl:Nat→Bool){T:Nat→Option FI}(hT:bp PP cl T)(jh: ∀k,cl k=true→vP T k=false)(fuel:Nat)(hd:cB cl tree c=true)(n:Nat)(hn:fn.ntmps=n)(Im:mM args.length n=true){rs:List ResultVar}(W0:fn.results.toList=rs){I:Pr}(hI:I=al)
  (hk: ∀call:pz,Any PP call→qA (nP {I:=I,L:=L,ρ:=ρ,sh:=sh,tree:=tree,call:=call,op:=op,dead:=dead,cl:=cl,keys:=lQ,eqs:=sO} T fuel 0) c (init n args g nx) (post (nP {I:=I,L:=L,ρ:=ρ,sh:=sh,tree:=tree,call:=call,op:=op,dead:=dead,cl:=cl,keys:=lQ,eqs:=sO} T fuel 0) rs fun r1 g1 Ax=>KQ r1 r∧g1=g'∧Ax=iP)):lA PP f args g nx r g' iP:=
 (X3 hL hm hf hb ρ sh tree dead op cl J5 QV hT jh fuel hd n hn Im W0 fun J call hJ hc _=>by rw[hJ,←hI];exact hk call hc).ao1 hr
theorem aY{W:St→(St→Prop)→Prop}{s:St}{Q:St→Prop}(vu:Option (List Fr))(vt:List (Nat×AV))(vb:List (Nat×Ob))(vg:Nat→Option Ob)(vn:Nat)
  (h1:W s (fun s1=>s1=rn s vu vt vb vg vn∨wk s1.clean (rn s vu vt vb vg vn)))(h2:Q (rn s vu vt vb vg vn).clean):adj W s Q:=⟨_,h1,_,rfl,h2⟩
def vy(k:Nat)(fi:FI)(T:Nat→Option FI):Nat→Option FI:=fun j=>bif bQ k j then some fi else T j
theorem bp.cons{P:Program}{cl:Nat→Bool}{k:Nat}{fi:FI}{T:Nat→Option FI}(h:mg P cl k fi)(hT:bp P cl T):bp P cl (vy k fi T):=fun j fj hj=>by
 unfold vy at hj;by_cases hk:k=j
 ·subst hk;rw[eE,aE]at hj;cases hj;exact h
 ·rw[zh hk,aM]at hj;exact hT j fj hj
theorem cl0(cl:Nat→Bool): ∀k,cl k=true→vP (fun _=>none) k=false:=fun _ _=>rfl
theorem Kz{cl:Nat→Bool}{k:Nat}{fi:FI}{T:Nat→Option FI}(h:cl k=false)(hT: ∀k,cl k=true→vP T k=false): ∀j,cl j=true→vP (vy k fi T) j=false:=fun j hj=>by
 have h2:=hT j hj
 unfold vP vy at*;by_cases hk:k=j
 ·subst hk;rw[h]at hj;cases hj
 ·rw[zh hk,aM];exact h2
theorem lW{I:Pr}(hI:I=al){A B:Prop}(h:B):(I.not true=true→A)∧(I.not true=false→B):=by subst hI;exact⟨fun h=>(by cases h),fun _=>h⟩
section
variable{α:Type}{M:Md}{I:Pr}{enc:α→List AV}
def lx(n:Nat)(l:List α):Option Unit:=if l.length=n then some ()else none
theorem aS(hI:I=al)(hM:M= .al){n:Nat}{l:List α}{u:Unit}(h:lx n l=some u):I.fR (M.map enc l)=n:=by
 subst hI;subst hM;unfold lx at h
 split at h
 ·rename_i hl;show(List.map enc l).length=n;rw[List.length_map];exact hl
 ·cases h
theorem gA(hI:I=al)(hM:M= .al){n:Nat}{x:α}{l:List α}{cs:List AV}(hl:List.replicate n x=l)(h:cs=enc x):I.rep n cs=M.map enc l:=by
 subst hI;subst hM;subst h;subst hl;simp[al,Md.al]
theorem dq(hM:M= .al)(h: ∀y,oh (enc y)=true)(l:List α):ep (M.map enc l)=true:=by
 subst hM;show ep (List.map enc l)=true
 induction l with
 |nil=>rfl
 |cons y r ih=>simp only[List.map_cons,ep,h,ih,Bool.and_true]
theorem aK(hI:I=al){m:Nat}{n:Int}{k:Nat}(hk:gN m n=some k):I.within n m∧I.nat n=k:=by
 subst hI;unfold gN at hk
 split at hk
 ·rename_i h;exact⟨h,oJ hk⟩
 ·cases hk
end
section
variable{κ β:Type}[DecidableEq κ]{M:Md}{I:Pr}
def Gr(f:κ→List AV)(g:β→List AV)(x:κ×β):List AV:=f x.1++g x.2
def H3(l:List (κ×β))(k:κ)(d:β):β:=((l.find? fun e=>decide (e.1=k)).map (·.2)).getD d
def H0(l:List (κ×β))(k:κ)(v:β):Option (List (κ×β)):=if(l.find? fun e=>decide (e.1=k)).isSome then none else some (l++[(k,v)])
def abM(l:List (κ×List β))(k:κ):List (κ×List β)×Nat×List β:=match l.findIdx? fun e=>decide (e.1=k)with
 |some i=>(l,i,((l[i]?).map (·.2)).getD [])
 |none=>(l++[(k,[])],l.length,[])
def aac(l:List (κ×β))(i:Nat)(v:β):Option (List (κ×β)):=(l[i]?).map fun e=>l.set i (e.1,v)
variable{f:κ→List AV}{g:β→List AV}
theorem J4{k:κ}{n:Nat}(hn: ∀a,(f a).length=n)(x:κ×β):(Gr f g x).take (f k).length=f x.1:=have _:=(inferInstance:DecidableEq κ);by
 unfold Gr;rw[hn k,←hn x.1,List.take_left]
theorem zi{n:Nat}(hn: ∀a,(f a).length=n)(tI: ∀a b,f a=f b→a=b){l:List (κ×β)}{k:κ}(h:(l.find? fun e=>decide (e.1=k))=none):yQ (l.map (Gr f g)) (f k) none:=by
 intro row fo;obtain⟨x,hx,rfl⟩:=List.mem_map.1 fo;rw[J4 hn];intro e;have:=List.find?_eq_none.1 h x hx
 simp[tI _ _ e]at this
theorem FM{n:Nat}(hn: ∀a,(f a).length=n)(tI: ∀a b,f a=f b→a=b){l:List (κ×β)}{k:κ}{i:Nat}(h:(l.findIdx? fun e=>decide (e.1=k))=some i): ∃x,l[i]? =some x∧x.1=k∧(l.find? fun e=>decide (e.1=k))=some x∧yQ (l.map (Gr f g)) (f k) (some i):=by
 obtain⟨aV,h1,h2⟩:=List.findIdx?_eq_some_iff_getElem.1 h;have hk:l[i].1=k:=by simpa using h1
 refine⟨l[i],by simp[aV],hk,?_,Gr f g l[i],by simp[aV],by rw[J4 hn,hk],fun j row' hj hr=>?_⟩
 ·rw[List.find?_eq_some_iff_getElem];exact⟨h1,i,aV,rfl,fun j hj=>by have:=h2 j hj;simpa using this⟩
 ·rw[List.getElem?_map]at hr;have hjl:j<l.length:=by omega
  rw[fp hjl]at hr;cases hr;rw[J4 hn];intro e;have:=h2 j hj
  simp[tI _ _ e]at this
theorem Gg{l:List (κ×β)}{k:κ}:(l.findIdx? fun e=>decide (e.1=k))=none↔(l.find? fun e=>decide (e.1=k))=none:=by
 rw[List.findIdx?_eq_none_iff,List.find?_eq_none];constructor
 ·intro h x hx;simp[h x hx]
 ·intro h x hx;simpa using h x hx
theorem WG(hM:M= .al){n:Nat}(hn: ∀a,(f a).length=n)(tI: ∀a b,f a=f b→a=b){av:β→AV}(hg: ∀y,g y=[av y]){l:List (κ×β)}{k:κ}{d x:β}{z:Value}(hx:H3 l k d=x){kc:List AV}(hk:kc=f k)(hz:P0 (.v z) (av d)):am4 (M.map (Gr f g) l) kc (.v z) (av x):=by
 subst hM;subst hk;unfold H3 at hx;cases hi:l.findIdx? fun e=>decide (e.1=k)with
 |none=>
  rw[Gg.1 hi]at hx;simp at hx;subst hx;exact .inr ⟨zi hn tI (Gg.1 hi),hz⟩
 |some i=>
  obtain⟨y,h1,h2,h3,h4⟩:=FM (g:=g) hn tI hi;rw[h3]at hx;simp at hx;subst hx;refine .inl ⟨i,Gr f g y,av y.2,h4,by show(l.map _)[i]? =_;rw[List.getElem?_map,h1];rfl,?_,eb _⟩;unfold Gr;rw[hn k,←hn y.1,ji (Nat.le_refl _),Nat.sub_self,hg];rfl
theorem Qp(hI:I=al)(hM:M= .al){n:Nat}(hn: ∀a,(f a).length=n)(tI: ∀a b,f a=f b→a=b){l l':List (κ×β)}{k:κ}{v:β}(hx:H0 l k v=some l'){kc:List AV}{va:AV}(hk:kc=f k)(hv:g v=[va]):yQ (M.map (Gr f g) l) kc none∧I.app (M.map (Gr f g) l) [kc++[va]]=M.map (Gr f g) l':=by
 subst hM;subst hI;subst hk;unfold H0 at hx
 split at hx
 ·cases hx
 ·rename_i h;cases hx;refine⟨zi hn tI (Option.not_isSome_iff_eq_none.1 h),?_⟩;show _++_=List.map _ _;rw[List.map_append,←hv];rfl
theorem QY{C:dx}(hI:C.I=al)(hM:M= .al){n:Nat}(hn: ∀a,(f a).length=n)(tI: ∀a b,f a=f b→a=b){γ:Type}{en:γ→List AV}{l l':List (κ×List γ)}{k:κ}{i:Nat}{ys:List γ}(hx:abM l k=(l',i,ys)){kc:List AV}(hk:kc=f k){r0:Nat}:
  aoJ C r0 (M.map (Gr f fun y=>[AV.sl r0 (M.map en y)]) l) kc (M.map (Gr f fun y=>[AV.sl r0 (M.map en y)]) l') i r0 (M.map en ys):=by
 subst hM;subst hk;unfold abM at hx;cases hi:l.findIdx? fun e=>decide (e.1=k)with
 |some j=>
  rw[hi]at hx;dsimp only at hx;injection hx with e1 e2;injection e2 with e2 e3;subst e1;subst e2;obtain⟨y,h1,h2,h3,h4⟩:=FM (g:=fun y=>[AV.sl r0 (Md.al.map en y)]) hn tI hi;rw[h1]at e3;simp at e3;subst e3;refine .inl ⟨h4,rfl,Gr f (fun y=>[AV.sl r0 (Md.al.map en y)]) y,by show(l.map _)[j]? =_;rw[List.getElem?_map,h1];rfl,?_⟩;unfold Gr;rw[hn k,←hn y.1,ji (Nat.le_refl _),Nat.sub_self];rfl
 |none=>
  rw[hi]at hx;dsimp only at hx;injection hx with e1 e2;injection e2 with e2 e3;subst e1;subst e2;subst e3;refine .inr ⟨zi hn tI (Gg.1 hi),?_,?_,rfl,rfl⟩
  ·rw[hI];show _++_=List.map _ _;rw[List.map_append];rfl
  ·rw[hI];show(List.map _ _).length=_;rw[List.length_map]
theorem QZ{C:dx}(hI:C.I=al)(hM:M= .al){kz:Nat}(hn: ∀a,(f a).length=kz){γ:Type}{en:γ→List AV}{l l':List (κ×List γ)}{i:Nat}{ys:List γ}{r0:Nat}{z:Int}(hx:aac l i ys=some l'):
  aoL C kz (M.map (Gr f fun y=>[AV.sl r0 (M.map en y)]) l) i i z z r0 (M.map en ys) (M.map (Gr f fun y=>[AV.sl r0 (M.map en y)]) l'):=have _:=(inferInstance:DecidableEq κ);by
 subst hM;unfold aac at hx;cases hl:l[i]? with
 |none=>rw[hl]at hx;cases hx
 |some e=>
  rw[hl]at hx;cases hx;refine⟨rfl,rfl,Gr f (fun y=>[AV.sl r0 (Md.al.map en y)]) e,by show(l.map _)[i]? =_;rw[List.getElem?_map,hl];rfl,?_⟩;rw[hI];show(l.map _).set i _=(l.set i _).map _;rw[List.map_set];congr 1;unfold Gr bF;rw[←hn e.1,List.take_left];simp
theorem XO{x y:κ}{b:Bool}(hb:decide (x=y)=b){C:dx}{t:Nat}{ks:List VK}(hk:C.eqs t=some ks)(tI: ∀a b,f a=f b→a=b)(hf: ∀a,nW ks (f a)=true){cx cy:List AV}(hx:cx=f x)(hy:cy=f y):sk C t (.agg cx)∧sk C t (.agg cy)∧ai4 (.agg cx) (.agg cy) b:=by
 subst hx;subst hy;subst hb;refine⟨?_,?_,f x,f y,rfl,rfl,?_⟩
 ·unfold sk;rw[hk];exact hf x
 ·unfold sk;rw[hk];exact hf y
 ·rw[decide_eq_true_eq];exact⟨fun e=>by rw[e],tI x y⟩
theorem Cl: ∀{n:Nat} {l:List Int},l.length=n→nW (List.replicate n (.int .i64)) (l.map aq).flatten=true
 |0,[],_=>rfl
 |n+1,a::r,h=>by
  rw[List.replicate_succ];show(IntKind.i64==IntKind.i64&&nW _ (r.map aq).flatten)=true;rw[Cl (by simpa using h)];rfl
theorem Mt: ∀{l m:List Int},(l.map aq).flatten=(m.map aq).flatten→l=m
 |[],[],_=>rfl
 |a::r,b::q,h=>by
  have:AV.v (.int .i64 a)::(r.map aq).flatten=AV.v (.int .i64 b)::(q.map aq).flatten:=h
  injection this with h1 h2;injection h1 with h1;injection h1 with _ h1;rw[h1,Mt h2]
 |[],b::q,h=>by simp[aq]at h
 |a::r,[],h=>by simp[aq]at h
theorem Pp(hM:M= .al){n:Nat}{l k:List Int}{b:Bool}{u w:Unit}(hl:lx n l=some u)(kh:lx n k=some w)(hb:decide (l=k)=b){C:dx}{t:Nat}(hk:C.eqs t=some (List.replicate n (.int .i64))):sk C t (.ar n 1 (M.map aq l))∧sk C t (.ar n 1 (M.map aq k))∧ai4 (.ar n 1 (M.map aq l)) (.ar n 1 (M.map aq k)) b:=by
 subst hM;subst hb;have h1:l.length=n:=by unfold lx at hl;split at hl;assumption;cases hl
 have h2:k.length=n:=by unfold lx at kh;split at kh;assumption;cases kh
 refine⟨?_,?_,_,_,rfl,rfl,?_⟩
 ·unfold sk;rw[hk];exact Cl h1
 ·unfold sk;rw[hk];exact Cl h2
 ·rw[decide_eq_true_eq];exact⟨fun e=>by rw[e],Mt⟩
end
theorem Gs(a b:Int)(h:aq a=aq b):a=b:=by
 injection h with h _;injection h with h;injection h
section
variable{α:Type}{M:Md}{I:Pr}{enc:α→List AV}
theorem su{C:dx}(hI:C.I=al)(hM:M= .al){l l':List α}{k off r:Nat}{x y:α}{ys:List (List AV)}(hy:gK l k=some y)(hx:nO l k x=some l')(ho:off<(enc y).length)(he:bF (enc y) off [.sl r ys]=enc x):apj C (M.map enc l) k k off off r ys (M.map enc l'):=by
 subst hM;unfold nO at hx
 split at hx
 ·cases hx;refine⟨rfl,rfl,enc y,?_,ho,?_⟩
  ·show(List.map enc l)[k]? =_;rw[List.getElem?_map];unfold gK at hy;rw[hy];rfl
  ·rw[hI,he];show(List.map enc l).set k (enc x)=_;rw[←List.map_set];rfl
 ·cases hx
end
section
variable{α:Type}{M:Md}{I:Pr}{enc:α→List AV}
def nI(n:Nat)(ys xs:List α):List α:=ys.take (min ys.length n)++xs.drop (min ys.length n)
def px(n:Nat)(ys:List α):Int:=((min ys.length n:Nat):Int)
theorem ix(hI:I=al)(hM:M= .al){ti:TI}{z:Nat}{n:Nat}{xs ys l:List α}{j:Int}(hl:nI n ys xs=l)(hj:px n ys=j)(hz:z=ti.size)(ho: ∀y,oh (enc y)=true)(he: ∀y,(enc y).length=ti.size):
  aoT I ti z n (M.map enc xs) (M.map enc ys) (M.map enc l) j:=by
 subst hI;subst hM;subst hl;subst hj;refine⟨hz,dq rfl ho ys,fun c hc=>?_,?_,?_⟩
 ·obtain⟨y,_,rfl⟩:=List.mem_map.1 hc;exact he y
 ·simp only[al,Md.al,List.length_map,px];split<;>omega
 ·simp only[al,Md.al,nI,px,List.length_map];simp[List.map_take,List.map_drop];rw[List.take_of_length_le (l:=List.map enc xs) (by simp)]
theorem qh(hI:I=al)(hM:M= .al){z n:Nat}{cs:List AV}{l:List α}(h:chunks z n cs=l.map enc):I.chunk z n cs=M.map enc l:=by subst hI;subst hM;exact h
end
section
variable{α:Type}{M:Md}{I:Pr}{enc:α→List AV}
theorem Q9{c:List AV}(h:cr c=true):Pz [c] [c]:=⟨[c],⟨⟨ak c,h⟩,trivial⟩,rfl⟩
theorem qP(hI:I=al){b:Nat}{x:α}{l:List α}(h:aQ b [] x=some l):I.room 0 1 b:=by
 subst hI;unfold aQ at h
 split at h
 ·rename_i hr;simpa[al]using hr
 ·cases h
theorem zd(hI:I=al)(hM:M= .al){b:Nat}{x:α}{l:List α}{row:List AV}(h:aQ b [] x=some l)(he:row=enc x):[row]=M.map enc l∧I.fR (M.map enc l)=M.ln l:=by
 subst hI;subst hM;subst he;unfold aQ at h
 split at h
 ·cases h;exact⟨rfl,rfl⟩
 ·cases h
theorem FF{C:dx}(hI:C.I=al)(hM:M= .al){b r:Nat}{x:α}{l l':List α}{row:List AV}(h:aQ b l x=some l')(he:row=enc x):goO r (M.ln l) b (M.map enc l) row C (M.map enc l') (M.ln l'):=by
 subst hM;subst he;unfold aQ at h
 split at h
 ·rename_i hr;cases h;refine⟨?_,?_,?_,?_⟩
  ·rw[hI];exact hr
  ·rw[hI];simp[al,Md.al]
  ·rw[hI];simp[al,Md.al]
  ·rw[hI];simp[al,Md.al]
 ·cases h
end
section
variable{α:Type}{M:Md}{I:Pr}{enc:α→List AV}
theorem KF(hM:M= .al){l:List α}{n:Int}{x:α}(hx:gI l n=some x):0≤n∧(M.map enc l)[n.toNat]? =some (enc x):=
 let⟨h1,h2,_⟩:=ao (enc:=enc) hM hx rfl;⟨h1,h2⟩
def Qy:List (List AV)→Bool
 |[]=>true
 |a::r=>cr a&&Qy r
theorem K9: ∀{xs:List (List AV)},Qy xs=true→wkL xs xs
 |[],_=>trivial
 |a::r,h=>by simp only[Qy,Bool.and_eq_true]at h;exact⟨⟨ak a,h.1⟩,K9 h.2⟩
theorem blL{xs:List (List AV)}(h:Qy xs=true):Pz xs xs:=⟨xs,K9 h,rfl⟩
def Fh(z:Nat):List (List AV)→Bool
 |[]=>true
 |a::r=>bQ a.length z&&Fh z r
theorem yZ{z:Nat}: ∀{xs:List (List AV)},Fh z xs=true→ ∀l∈xs,l.length=z
 |[],_,l,hl=>by simp at hl
 |a::r,h,l,hl=>by
  simp only[Fh,Bool.and_eq_true]at h;rcases List.mem_cons.1 hl with rfl|hl
  ·exact cY h.1
  ·exact yZ h.2 l hl
def adF(ti:TI)(xs ys:List (List AV)):Bool:=(mM ((xs.length+ys.length)*ti.bytes) 70368744177664&&mM (xs.length+ys.length) 70368744177664)&&((mM 1 ti.size&&ep ys)&&(Fh ti.size ys&&Fh ti.size xs))
theorem apL{C:dx}(hI:C.I=al){ti:TI}{xs ys zs:List (List AV)}(h:adF ti xs ys=true)(hz:xs++ys=zs):Yj C ti xs ys zs:=by
 simp only[adF,Bool.and_eq_true,wP]at h;obtain⟨⟨h1,h2⟩,⟨h3,h4⟩,h5,h6⟩:=h;refine⟨⟨?_,by rw[wP];exact h3,h4,yZ h5⟩,yZ h6,?_⟩
 ·rw[hI];exact⟨h1,h2⟩
 ·rw[hI];exact hz
theorem adE(hI:I=al){xs:List (List AV)}{n:Nat}(h:xs.length=n):Int.ofNat (I.fR xs)=(n:Int):=by subst hI;subst h;rfl
theorem oy{x:Bool}{A B:Prop}(hx:x=true)(h:A):(x=true→A)∧(x=false→B):=⟨fun _=>h,fun e=>by rw[hx]at e;cases e⟩
theorem oA{x:Bool}{A B:Prop}(hx:x=false)(h:B):(x=true→A)∧(x=false→B):=⟨fun e=>(by rw[hx]at e;cases e),fun _=>h⟩
theorem sG(hI:I=al){a b:Int}(h:decide (a<b)=true):I.bg a b=true:=by subst hI;exact h
theorem sH(hI:I=al){a b:Int}(h:decide (a<b)=false):I.bg a b=false:=by subst hI;exact h
theorem ahS(hI:I=al){a b c:Int}(h:IntKind.wrap .i64 (a+b)=c):AV.v (.int .i64 (I.wrap .i64 (I.add a b)))=AV.v (.int .i64 c):=by subst hI;subst h;rfl
theorem NP{W:St→(Ex→St→Prop)→Prop}{s:St}{Q:Ex→St→Prop}{N:Nat}(vd:List Nat)(vu:Option (List Fr))(vt:List (Nat×AV))(vb:List (Nat×Ob))(vg:Nat→Option Ob)(vn:Nat)(hk:wk s (rm s vd vu vt vb vg vn))
  (h: ∀R:St→Prop,(∀s',qD W N s' Q→R s')→W (rm s vd vu vt vb vg vn) (Uu R Q)):qD W (N+1) s Q:= .inr ⟨_,hk,h _ fun _ hs=>hs⟩
end
end Ab
namespace Ab
open Go
set_option maxHeartbeats 100000000
set_option maxRecDepth 100000
structure aH where
 kind:Int
 name:ByteArray
 num:Int
 args:List Int
 deriving DecidableEq
instance:Inhabited aH:=⟨⟨0,⟨#[]⟩,0,[]⟩⟩
structure ah where
 head:ByteArray
 aN:Int
 ops:List aH
 result:Int
 deriving DecidableEq
instance:Inhabited ah:=⟨⟨⟨#[]⟩,0,[],0⟩⟩
structure ai where
 name:ByteArray
 aG:Int
 ae:List ah
 deriving DecidableEq
instance:Inhabited ai:=⟨⟨⟨#[]⟩,0,[]⟩⟩
structure af where
 ab:List ai
 deriving DecidableEq
instance:Inhabited af:=⟨⟨[]⟩⟩
structure cA where
 kind:Int
 name:ByteArray
 num:Int
 deriving DecidableEq
instance:Inhabited cA:=⟨⟨0,⟨#[]⟩,0⟩⟩
def bB(M:Md)(r:Nat)(x:aH):List AV:=[(vi x.kind),(vs x.name),(vi x.num),(.sl r (M.map aq x.args))]
def az(M:Md)(r:Nat)(x:ah):List AV:=[(vs x.head),(vi x.aN),(.sl r (M.map (bB M r) x.ops)),(vi x.result)]
def ay(M:Md)(r:Nat)(x:ai):List AV:=[(vs x.name),(vi x.aG),(.sl r (M.map (az M r) x.ae))]
def aZ(M:Md)(r:Nat)(x:af):List AV:=[(.sl r (M.map (ay M r) x.ab))]
def bU(M:Md)(r:Nat)(x:cA):List AV:=[(vi x.kind),(vs x.name),(vi x.num)]
theorem dC(M:Md)(r:Nat)(a b:cA)(h:bU M r a=bU M r b):a=b:=by
 cases a;cases b;simp only[bU,List.cons.injEq,vi,vs,vb,AV.v.injEq,Value.int.injEq,Value.string.injEq,Value.bool.injEq,true_and,and_true]at h;simp[h]
end Ab
namespace Ab
open Go
variable{P:Program}{E E':Env}{w w':World}
def D2(a:AV):Prop:= ∀r,1000000≤r→uc r a
def Env.pU(E:Env):Env:={E with dN:=fun b=>if E.dN b<1000000 then E.dN b else 0}
theorem Jw{q:Nat}(h: ∀r,1000000≤r→q≠r):q<1000000:=by
 rcases Nat.lt_or_ge q 1000000 with h1|h1
 ·exact h1
 ·exact absurd rfl (h q h1)
theorem BI{E:Env}{b q:Nat}(h:E.dN b=q)(hq:q<1000000):E.pU.dN b=q:=by
 show(if E.dN b<1000000 then E.dN b else 0)=q;rw[if_pos (by omega),h]
theorem Cz.pU{av:AV}{x:Value}(h:Cz E av x):D2 av→Cz E.pU av x:=by
 have sub: ∀{cs:List AV} {q:Nat} {a:AV},(∀r,1000000≤r→Em r cs)→cs[q]? =some a→D2 a:=fun h hq r hr=>oD (h r hr) _ _ hq
 have afN: ∀{xs:List (List AV)} {q:Nat} {a:AV},(∀r,1000000≤r→pC r xs)→xs.flatten[q]? =some a→D2 a:=fun h hq r hr=>lO (h r hr) _ _ hq
 induction h with
 |any x=>exact fun _=> .any _
 |v x=>exact fun _=> .v _
 |mq q A c=>exact fun _=> .mq _ _ _
 |sl q xs z b o c u hp hc hm dw hz hr hi hs hu hq ih=>
  intro hn;simp only[D2,uc]at hn;exact .sl q xs z b o c u hp hc hm dw hz (BI hr (Jw fun r h=>(hn r h).1)) hi hs hu fun i a ha=>ih i a ha (afN (fun r h=>(hn r h).2) ha)
 |rH q t=>exact fun _=> .rH _ _
 |gs q t xs z b c e cells u hc hm h0 dw hz hr hb dg ho er hi hu hq ih=>
  intro hn;simp only[D2,uc]at hn;exact .gs q t xs z b c e cells u hc hm h0 dw hz (BI hr (Jw fun r h=>(hn r h).1)) hb dg ho er hi hu fun i a ha=>ih i a ha (afN (fun r h=>(hn r h).2) ha)
 |aR q cs off b o u hr hi hs hu hq ih=>
  intro hn;simp only[D2,uc]at hn;exact .aR q cs off b o u (fun i a ha=>BI (hr i a ha) (Jw fun r h=>(hn r h).1)) hi hs hu fun i a ha=>ih i a ha (sub (fun r h=>(hn r h).2) ha)
 |ptr k' off hl=>exact fun _=>Cz.ptr (E:=E.pU) k' off hl
 |eW k' n hl hn hc hm=>exact fun _=>Cz.eW (E:=E.pU) k' n hl hn hc hm
 |ca k' i off z hl=>exact fun _=>Cz.ca (E:=E.pU) k' i off z hl
 |mp k' hl=>exact fun _=>Cz.mp (E:=E.pU) k' hl
 |nM k' hl=>exact fun _=>Cz.nM (E:=E.pU) k' hl
 |ar n z xs ys hn hz hl hi hq ih=>intro h;simp only[D2,uc]at h;exact .ar n z xs ys hn hz hl hi fun q a y ha hy=>ih q a y ha hy (afN h ha)
 |fn f cs ys hl hq ih=>intro h;simp only[D2,uc]at h;exact .fn f cs ys hl fun q a y ha hy=>ih q a y ha hy (sub h ha)
 |bm f cs ys hl hi hq ih=>intro h;simp only[D2,uc]at h;exact .bm f cs ys hl hi fun q a y ha hy=>ih q a y ha hy (sub h ha)
 |lB q z xs x hz h ih=>
  intro hn;simp only[D2,uc]at hn;refine .lB q z xs x hz (ih fun r hr=>?_);simp only[uc];exact⟨(hn r hr).1,OP fun a ha=>by obtain⟨i,hi⟩:=List.getElem?_of_mem ha;exact lO (hn r hr).2 i a hi⟩
 |agg cs ys hl hq ih=>intro h;simp only[D2,uc]at h;exact .agg cs ys hl fun q a y ha hy=>ih q a y ha hy (sub h ha)
 |gw cs ys hl hq ih=>intro h;simp only[D2,uc]at h;exact .gw cs ys hl fun q a y ha hy=>ih q a y ha hy (sub h ha)
def aeh(args:List AV):Prop:= ∀r,1000000≤r→Em r args
theorem FJ{g:Nat→Option Ob}{nx:Nat}(hG:xy E w g nx): ∀i,g i=none:=fun i=>by
 cases h:g i with
 |none=>rfl
 |some ob=>
  exfalso;have h1:=hG.gx i ob h
  have key:E.own (E.m (.o i))= .key (.o i):=by
   cases ob with
   |box cs=>exact h1.2.choose_spec.choose_spec.2.1
   |arr z xs=>obtain⟨_,_,_,_,_,c,e,_,h2,_⟩:=h1;exact h2
   |ow p l xs=>exact h1.2.1
   |lp n t ps nX body st=>exact h1.2.1
  have:=hG.ng (E.m (.o i))
  rw[key]at this;exact this rfl
theorem vq.lift{f:Nat}{args:List AV}{v:Value}(h: ∀(g:Nat→Option Ob),(∀i,g i=none)→ ∀nx,vq P true f args g nx fun r1 g1 Ax=>KQ r1 (.v v)∧g1=g∧Ax=nx)(Xb:aeh args)(g:Nat→Option Ob)(nx:Nat):
  lA P f args g nx (.v v) g nx:=by
 intro hi E w vs hG hl hv;have hg:=FJ hG
 have hG1:xy E.pU w g nx:=⟨hG.heap,⟨hG.wf.aI,hG.wf.own,fun b o _ hr=>by
  exfalso;have hr:1000000≤(if E.dN b<1000000 then E.dN b else 0):=hr
  split at hr<;>omega⟩,hG.nl,hG.gl,hG.own,hG.gk,fun i ob hh=>(by rw[hg i]at hh;cases hh),hG.ng⟩
 refine(h g hg nx hi E.pU w vs hG1 (fun _ b o _=>by show(if E.dN b<1000000 then E.dN b else 0)<1000000;split<;>omega) hl fun q a y ha hy=>(hv q a y ha hy).pU fun r hr=>oD (Xb r hr) q a ha).mono ?_
 rintro e w' ⟨r,g',iP,x,E1,⟨e1,e2,e3⟩,e4,KT,hE,hS,hc,hir,Bw⟩
 subst e2;subst e3;have hx:Cz E1 (.v v) x:=xC e1 hc
 have hx:=bN hx
 subst hx;refine⟨x,{E1 with dN:=fun b=>if b<E.h.size then E.dN b else E1.dN b},e4,⟨KT.heap,⟨KT.wf.aI,KT.wf.own,fun b o hs hr=>?_⟩,KT.nl,KT.gl,KT.own,KT.gk,fun i ob hh=>(by rw[hg i]at hh;cases hh),KT.ng⟩,⟨hE.size,fun b o hs=>⟨(hE.aI b o hs).1,(hE.aI b o hs).2.1,by show(if b<E.h.size then E.dN b else E1.dN b)=E.dN b;rw[if_pos (hG.wf.aI b o hs)]⟩,hE.live,fun b hb hn=>?_⟩,hS,.v _,rfl,Bw⟩
 ·have hr:1000000≤(if b<E.h.size then E.dN b else E1.dN b):=hr
  by_cases hb:b<E.h.size
  ·rw[if_pos hb]at hr;have hk:=hE.bw b hb (hG.ng b)
   obtain⟨c,e,h1⟩:=hG.wf.fz b o ((hk.2.2.1 o).1 hs) hr;exact⟨c,e,hk.2.1.trans h1⟩
  ·rw[if_neg hb]at hr;exact KT.wf.fz b o hs hr
 ·have hk:=hE.bw b hb hn
  exact⟨hk.1,hk.2.1,hk.2.2.1,by show(if b<E.h.size then E.dN b else E1.dN b)=E.dN b;rw[if_pos hb]⟩
theorem Pq{L:nK}(hL:bj PP L)(hm:PP.follows .mixedOrders=true){f:Nat}{fn:Func}{c:Code}(hf:PP.funcs[f]? =some fn)(hb:fn.body=some c){args:List AV}{g:Nat→Option Ob}{nx:Nat}{r:AV}{g':Nat→Option Ob}{iP:Nat}
  (ρ:Nat)(sh:List Nat)(tree:Nat→Tree)(dead:Nat→List Nat)(op:List Nat)(cl:Nat→Bool){T:Nat→Option FI}(hT:bp PP cl T)(jh: ∀k,cl k=true→vP T k=false)(fuel:Nat)(hd:cB cl tree c=true)(n:Nat)(hn:fn.ntmps=n)(Im:mM args.length n=true){rs:List ResultVar}(W0:fn.results.toList=rs){I:Pr}(hI:I=al)
  (hk: ∀call:pz,Any PP call→qA (nP {I:=I,L:=L,ρ:=ρ,sh:=sh,tree:=tree,call:=call,op:=op,dead:=dead,cl:=cl,keys:=lQ,eqs:=sO} T fuel 0) c (init n args g nx true) (post (nP {I:=I,L:=L,ρ:=ρ,sh:=sh,tree:=tree,call:=call,op:=op,dead:=dead,cl:=cl,keys:=lQ,eqs:=sO} T fuel 0) rs fun r1 g1 Ax=>KQ r1 r∧g1=g'∧Ax=iP)):vq PP true f args g nx fun r1 g1 Ax=>KQ r1 r∧g1=g'∧Ax=iP:=
 S3 hL hm hf hb true ρ sh tree dead op cl J5 QV hT jh fuel hd n hn Im W0 fun J call hJ hc _=>by rw[hJ,←hI];exact hk call hc
section
variable{I:Pr}(hI:I=al){M:Md}(hM:M= .al)
 include hM
theorem L3{r:Nat}(l:List Int):pC r (M.map aq l):=by
 subst hM;exact AA fun x hx=>by
  obtain⟨z,_,rfl⟩:=List.mem_map.1 hx;simp[aq,vi,Em,uc]
theorem aaB{r q:Nat}(h:q≠r)(l:List aH):pC r (M.map (bB M q) l):=by
 have h1: ∀o:aH,Em r (bB M q o):=fun o=>by
  unfold bB;simp only[Em,uc,vi,vs,and_true,true_and];exact⟨h,L3 hM _⟩
 subst hM;exact AA fun x hx=>by
  obtain⟨z,_,rfl⟩:=List.mem_map.1 hx;exact h1 z
theorem JV{r q:Nat}(h:q≠r)(l:List ah):pC r (M.map (az M q) l):=by
 have h1: ∀o:ah,Em r (az M q o):=fun o=>by
  unfold az;simp only[Em,uc,vi,vs,and_true,true_and];exact⟨h,aaB hM h _⟩
 subst hM;exact AA fun x hx=>by
  obtain⟨z,_,rfl⟩:=List.mem_map.1 hx;exact h1 z
theorem zg{r q:Nat}(h:q≠r)(l:List ai):pC r (M.map (ay M q) l):=by
 have h1: ∀o:ai,Em r (ay M q o):=fun o=>by
  unfold ay;simp only[Em,uc,vi,vs,and_true,true_and];exact⟨h,JV hM h _⟩
 subst hM;exact AA fun x hx=>by
  obtain⟨z,_,rfl⟩:=List.mem_map.1 hx;exact h1 z
theorem X1{r:Nat}(l:List ai):Q2 (.agg [.sl r (M.map (ay M r) l)]):=by
 subst hM;refine⟨r,_,rfl,_,rfl,fun x hx=>?_⟩;obtain⟨b,_,rfl⟩:=List.mem_map.1 hx;refine⟨b.name,b.aG,_,rfl,_,rfl,fun x hx=>?_⟩;obtain⟨c,_,rfl⟩:=List.mem_map.1 hx;refine⟨c.head,c.aN,_,c.result,rfl,_,rfl,fun x hx=>?_⟩;obtain⟨o,_,rfl⟩:=List.mem_map.1 hx;refine⟨o.kind,o.name,o.num,_,rfl,_,rfl,fun x hx=>?_⟩;obtain⟨z,_,rfl⟩:=List.mem_map.1 hx;exact⟨z,rfl⟩
 include hI
theorem Sf{r q:Nat}(h:bQ q r=false)(l:List ai):I.nr r (M.map (ay M q) l):=by
 have:=zg hM (r:=r) (q:=q) (fun e=>by subst e;simp at h) l
 subst hI;exact this
theorem aaC{r:Nat}(l:List Int):I.nr r (M.map aq l):=by
 have:=L3 hM (r:=r) l
 subst hI;exact this
end
theorem ahJ{I:Pr}(hI:I=al){r:Nat}{xs:List (List AV)}(h:pC r xs):I.nr r xs:=by subst hI;exact h
end Ab
namespace Ab
open Go
variable{P:Program}{W:World}{H:Type}{enc:TypeId×Value→H}{spare:Nat→Bool}
def sJ(W:World):Env:={h:=W.heap,aI:=fun b o=> ∃v,aO W.heap b o=some v,dN:=fun _=>0,m:=fun _=>0,live:=fun _=>False,len:=fun _=>(0,0),own:=fun _=> .Wd}
theorem SU(W:World):xy (sJ W) W (fun _=>none) 0:=by
 refine⟨rfl,⟨fun b o h=>?_,fun b h=>absurd rfl h,fun b o _ h=>?_⟩,fun d _ h=>h,fun i=>⟨fun h=>h.elim,fun h=>absurd h (Nat.not_lt_zero _)⟩,fun b=>rfl,fun i ob h=>(by cases h),fun i ob h=>(by cases h),fun b h=>(by cases h)⟩
 ·obtain⟨v,hv⟩:=h;have hv:aO W.heap b o=some v:=hv
  unfold aO at hv;cases hb:W.heap[b]? with
  |none=>rw[hb]at hv;cases hv
  |some x=>exact(Array.getElem?_eq_some_iff.1 hb).1
 ·have h:1000000≤0:=h
  omega
def Yl(W:World)(l:List AV)(cs:List Value):Prop:=cs.length=l.length∧ ∀(q:Nat) (a:AV) (v:Value),l[q]? =some a→cs[q]? =some v→Cz (sJ W) a v
theorem OX{β:Type}{f:Nat→Option β}{n:Nat}{l:List β}(h:(List.range n).mapM f=some l):l.length=n∧ ∀i,i<n→f i=l[i]? :=
 ⟨by simpa using mapM_some_length h,fun i hi=>mapM_some_get h i i (by simp[hi])⟩
theorem El{α:Type}{eA:α→List AV}{e t z:Nat}(ht:P.underlying t=some (.slice e))(hz:P.cellsOf e=z)(h0:0<z)(hlen: ∀x,(eA x).length=z)(aiJ: ∀x,cr (eA x)=true)
  (he: ∀(n:Nat) (cs:List Value) (y:DataW H×List MemPlace),DataW.trod enc P W 0 spare true n e cs=some y→ ∃x:α,Yl W (eA x) cs)
  {n:Nat}{cs:List Value}{y:DataW H×List MemPlace}(h:DataW.trod enc P W 0 spare true n t cs=some y): ∃(l:List α) (v:Value),cs=[v]∧Cz (sJ W) (.sl 0 (l.map eA)) v:=by
 rcases DataW.trod_slice ht h with⟨rfl,_⟩|⟨a,len,cap,elems,rest,m,_,rfl,_,_,hlc,hcm,sg,yd,_⟩
 ·exact⟨[],_,rfl,.mq _ _ _⟩
 rw[hz]at yd;cases len with
 |zero=>exact⟨[],_,rfl,.mq _ _ _⟩
 |succ len=>
 have row: ∀i,i<len+1→ ∃(x:α) (cs:List Value),Yl W (eA x) cs∧cs.length=z∧ ∀q,q<z→W.cell? ((a.add (i*z)).add q)=cs[q]? :=fun i hi=>by
  have hg:=yd i hi
  have aV:i<elems.length:=by omega
  rw[fp aV]at hg;obtain⟨cs,h1,h2⟩:=Option.bind_eq_some_iff.1 hg;obtain⟨x,hx⟩:=he _ _ _ h2;unfold World.cells? at h1
  split at h1
  ·obtain⟨h3,h4⟩:=OX h1;exact⟨x,cs,hx,h3,h4⟩
  ·cases h1
 obtain⟨x0,cs0,WX,hl0,hc0⟩:=row 0 (by omega);have adR:a.spot=none:=by
  have h1:=hc0 0 h0
  rw[Nat.zero_mul,fp (by omega)]at h1;have h2:W.cell? a=some cs0[0]:=by simpa[Addr.add]using h1
  unfold World.cell? at h2
  split at h2
  ·split at h2
   ·cases h2
   ·rename_i h3;simpa using h3
  ·cases h2
 obtain⟨b,o,sp⟩:=a;dsimp only at adR;subst adR;have rows: ∀k,k≤len+1→ ∃l:List α,l.length=k∧ ∀i x,l[i]? =some x→ ∀q a,(eA x)[q]? =some a→ ∃v,aO W.heap b (o+(i*z+q))=some v∧Cz (sJ W) a v:=by
  intro k
  induction k with
  |zero=>intro _;exact⟨[],rfl,fun i x h=>by simp at h⟩
  |succ k ih=>
   intro hk;obtain⟨l,h1,h2⟩:=ih (by omega);obtain⟨x,cs,hx,jh,hc⟩:=row k (by omega);refine⟨l++[x],by simp[h1],fun i x' hi q a ha=>?_⟩;by_cases aV:i<k
   ·rw[iq (by omega)]at hi;exact h2 i x' hi q a ha
   ·have:i=k:=by have:=(bh.1 hi).1;simp at this;omega
    subst this;rw[ji (by omega)]at hi;simp[h1]at hi;subst hi;have hq:q<z:=by rw[←hlen x];exact(bh.1 ha).1
    have h3:=hc q hq
    rw[ew,ew,fp (by omega),kq]at h3;refine⟨_,by rw[←Nat.add_assoc];exact h3,hx.2 q a _ ha (fp _)⟩
 obtain⟨l,hl,hq⟩:=rows (len+1) (Nat.le_refl _);refine⟨l,_,rfl,?_⟩;have key: ∀q a,(l.map eA).flatten[q]? =some a→ ∃v,aO W.heap b (o+q)=some v∧Cz (sJ W) a v:=fun q a ha=>by
  have fS:(l.map eA).flatten.length=l.length*z:=by rw[aB (z:=z) (fun x hx=>by obtain⟨y,_,rfl⟩:=List.mem_map.1 hx;exact hlen y)];simp
  have atK:q<l.length*z:=by rw[←fS];exact(bh.1 ha).1
  have hi:q / z<l.length:=(Nat.div_lt_iff_lt_mul h0).2 atK
  have hm:=Nat.mod_lt q h0
  have fo:(l.map eA)[q / z]? =some (eA l[q / z]):=by simp[hi]
  have hf:=dE (z:=z) (xs:=l.map eA) (i:=q / z) (fun x hx=>by obtain⟨y,_,rfl⟩:=List.mem_map.1 hx;exact hlen y) fo (q % z) hm
  rw[Nat.div_add_mod' q z]at hf;rw[hf]at ha;have:=hq (q / z) l[q / z] (fp hi) (q % z) a ha
  rwa [Nat.div_add_mod' q z]at this
 have MA:(l.map eA).length=len+1:=by simp[hl]
 have hc:=Cz.sl (E:=sJ W) 0 (l.map eA) z b o cap (fun q=>(aO W.heap b (o+q)).getD undef) (by rw[MA];omega) (by rw[MA];exact hlc) hcm h0 (fun x hx=>by obtain⟨y,_,rfl⟩:=List.mem_map.1 hx;exact hlen y) rfl
  (fun q a ha=>by
   obtain⟨i,hi⟩: ∃x∈l,a∈eA x:=by
    have:=jK ha
    obtain⟨r,hr,Y5⟩:=List.mem_flatten.1 this;obtain⟨x,hx,rfl⟩:=List.mem_map.1 hr;exact⟨x,hx,Y5⟩
   obtain⟨j,hj⟩:=List.getElem?_of_mem hi.2;exact bf (aiJ i) j a hj)
  (fun q a ha=>by obtain⟨v,hv,_⟩:=key q a ha;exact⟨v,hv⟩) (fun q a ha=>by obtain⟨v,hv,_⟩:=key q a ha;show aO W.heap b (o+q)=_;rw[hv];rfl) (fun q a ha=>by obtain⟨v,hv,hc⟩:=key q a ha;rw[hv];exact hc)
 rw[MA]at hc;exact hc
set_option maxRecDepth 100000
open Go.Proofs
theorem open_int{n:Nat}{cs:List Value}{y:DataW H×List MemPlace}(h:DataW.trod enc PP W 0 spare true n 3 cs=some y): ∃z:Int,cs=[.int .i64 z]:=by
 obtain⟨z,h1,_⟩:=DataW.trod_int Tryz.underlying3 h;exact⟨z,h1⟩
theorem FG{n:Nat}{cs:List Value}{y:DataW H×List MemPlace}(h:DataW.trod enc PP W 0 spare true n 9 cs=some y): ∃s:ByteArray,cs=[.string s]:=by
 obtain⟨z,h1,_⟩:=DataW.trod_string Tryz.underlying9 h;exact⟨z,h1⟩
theorem S5:PP.cellsOf 3=1:=by kernel_rfl
theorem akc:PP.cellsOf 9=1:=by kernel_rfl
theorem aoY:PP.cellsOf 30=1:=by kernel_rfl
theorem aoW:PP.cellsOf 59=1:=by kernel_rfl
theorem aoX:PP.cellsOf 55=1:=by kernel_rfl
theorem ao0:PP.cellsOf 22=1:=by kernel_rfl
theorem aec:PP.cellsOf 64=4:=by kernel_rfl
theorem aed:PP.cellsOf 61=4:=by kernel_rfl
theorem aee:PP.cellsOf 57=3:=by kernel_rfl
theorem aoZ:PP.cellsOf 24=1:=by kernel_rfl
theorem TE{fs:Array Field}{cs:List Value}{m:Nat}{xs:List (DataW H×List MemPlace)}(hf: ∀(i:Nat) (f:Field),fs[i]? =some f→DataW.trod enc PP W 0 spare true m f.type ((cs.drop f.offset).take (PP.cellsOf f.type))=xs[i]?)
  {i t o k:Nat}{f:Field}{x:DataW H×List MemPlace}(h:fs[i]? =some f)(ht:f.type=t)(ho:f.offset=o)(hc:PP.cellsOf t=k)(hx:xs[i]? =some x):DataW.trod enc PP W 0 spare true m t ((cs.drop o).take k)=some x:=by
 have:=hf i f h
 rw[ht,ho,hc,hx]at this;exact this
theorem aaz{n:Nat}{cs:List Value}{y:DataW H×List MemPlace}(h:DataW.trod enc PP W 0 spare true n 64 cs=some y): ∃x:aH,Yl W (bB .al 0 x) cs:=by
 obtain⟨xs,m,_,_,hl,hn,hf⟩:=DataW.trod_struct Tryz.underlying64 h;rw[aec]at hl
 match cs,hl with
 |[a,b,c,d],_=>
  match xs,hn with
  |[x0,x1,x2,x3],_=>
   have f0:=TE hf (i:=0) (t:=3) (o:=0) rfl rfl rfl S5 rfl
   have f1:=TE hf (i:=1) (t:=9) (o:=1) rfl rfl rfl akc rfl
   have f2:=TE hf (i:=2) (t:=3) (o:=2) rfl rfl rfl S5 rfl
   have f3:=TE hf (i:=3) (t:=30) (o:=3) rfl rfl rfl aoY rfl
   obtain⟨k,e0⟩:=open_int f0;obtain⟨s,e1⟩:=FG f1;obtain⟨z,e2⟩:=open_int f2;obtain⟨l,v,e3,hc⟩:=El (eA:=aq) Tryz.underlying30 S5 (by decide) (fun _=>rfl) (fun _=>rfl) (fun n cs y h=>by
    obtain⟨z,rfl⟩:=open_int h;exact⟨z,rfl,fun q a v ha hv=>by
     match q,ha,hv with
     |0,ha,hv=>cases ha;cases hv;exact .v _⟩) f3
   simp only[List.drop_zero,List.drop_succ_cons,List.take_succ_cons,List.take_zero,List.cons.injEq,and_true]at e0 e1 e2 e3;subst e0;subst e1;subst e2;subst e3;refine⟨⟨k,s,z,l⟩,rfl,fun q a v ha hv=>?_⟩
   match q,ha,hv with
   |0,ha,hv=>cases ha;cases hv;exact .v _
   |1,ha,hv=>cases ha;cases hv;exact .v _
   |2,ha,hv=>cases ha;cases hv;exact .v _
   |3,ha,hv=>cases ha;cases hv;exact hc
theorem LX{n:Nat}{cs:List Value}{y:DataW H×List MemPlace}(h:DataW.trod enc PP W 0 spare true n 61 cs=some y): ∃x:ah,Yl W (az .al 0 x) cs:=by
 obtain⟨xs,m,_,_,hl,hn,hf⟩:=DataW.trod_struct Tryz.underlying61 h;rw[aed]at hl
 match cs,hl with
 |[a,b,c,d],_=>
  match xs,hn with
  |[x0,x1,x2,x3],_=>
   have f0:=TE hf (i:=0) (t:=9) (o:=0) rfl rfl rfl akc rfl
   have f1:=TE hf (i:=1) (t:=3) (o:=1) rfl rfl rfl S5 rfl
   have f2:=TE hf (i:=2) (t:=59) (o:=2) rfl rfl rfl aoW rfl
   have f3:=TE hf (i:=3) (t:=3) (o:=3) rfl rfl rfl S5 rfl
   obtain⟨s,e0⟩:=FG f0;obtain⟨k,e1⟩:=open_int f1;obtain⟨z,e3⟩:=open_int f3;obtain⟨l,v,e2,hc⟩:=El (eA:=bB .al 0) Tryz.underlying59 aec (by decide) (fun _=>rfl) (fun _=>rfl) (fun n cs y h=>aaz h) f2;simp only[List.drop_zero,List.drop_succ_cons,List.take_succ_cons,List.take_zero,List.cons.injEq,and_true]at e0 e1 e2 e3;subst e0;subst e1;subst e2;subst e3;refine⟨⟨s,k,l,z⟩,rfl,fun q a v ha hv=>?_⟩
   match q,ha,hv with
   |0,ha,hv=>cases ha;cases hv;exact .v _
   |1,ha,hv=>cases ha;cases hv;exact .v _
   |2,ha,hv=>cases ha;cases hv;exact hc
   |3,ha,hv=>cases ha;cases hv;exact .v _
theorem OM{n:Nat}{cs:List Value}{y:DataW H×List MemPlace}(h:DataW.trod enc PP W 0 spare true n 57 cs=some y): ∃x:ai,Yl W (ay .al 0 x) cs:=by
 obtain⟨xs,m,_,_,hl,hn,hf⟩:=DataW.trod_struct Tryz.underlying57 h;rw[aee]at hl
 match cs,hl with
 |[a,b,c],_=>
  match xs,hn with
  |[x0,x1,x2],_=>
   have f0:=TE hf (i:=0) (t:=9) (o:=0) rfl rfl rfl akc rfl
   have f1:=TE hf (i:=1) (t:=3) (o:=1) rfl rfl rfl S5 rfl
   have f2:=TE hf (i:=2) (t:=55) (o:=2) rfl rfl rfl aoX rfl
   obtain⟨s,e0⟩:=FG f0;obtain⟨k,e1⟩:=open_int f1;obtain⟨l,v,e2,hc⟩:=El (eA:=az .al 0) Tryz.underlying55 aed (by decide) (fun _=>rfl) (fun _=>rfl) (fun n cs y h=>LX h) f2;simp only[List.drop_zero,List.drop_succ_cons,List.take_succ_cons,List.take_zero,List.cons.injEq,and_true]at e0 e1 e2;subst e0;subst e1;subst e2;refine⟨⟨s,k,l⟩,rfl,fun q a v ha hv=>?_⟩
   match q,ha,hv with
   |0,ha,hv=>cases ha;cases hv;exact .v _
   |1,ha,hv=>cases ha;cases hv;exact .v _
   |2,ha,hv=>cases ha;cases hv;exact hc
theorem Sc{n:Nat}{cs:List Value}{y:DataW H×List MemPlace}(h:DataW.trod enc PP W 0 spare true n 24 cs=some y): ∃(c:af) (v:Value),cs=[v]∧Cz (sJ W) (.sl 0 (c.ab.map (ay .al 0))) v:=by
 obtain⟨xs,m,_,_,hl,hn,hf⟩:=DataW.trod_struct Tryz.underlying24 h;rw[aoZ]at hl
 match cs,hl with
 |[a],_=>
  match xs,hn with
  |[x0],_=>
   have f0:=TE hf (i:=0) (t:=22) (o:=0) rfl rfl rfl ao0 rfl
   obtain⟨l,v,e0,hc⟩:=El (eA:=ay .al 0) Tryz.underlying22 aee (by decide) (fun _=>rfl) (fun _=>rfl) (fun n cs y h=>OM h) f0;simp only[List.drop_zero,List.take_succ_cons,List.take_zero,List.cons.injEq,and_true]at e0;subst e0;exact⟨⟨l⟩,a,rfl,hc⟩
end Ab
namespace Ab
open Go Go.Proofs Go.Proofs.YtcdinjhcnhepeaaGreatDoor
open Go.ChangeShapes Go.WideShapes Go.ChangeAt Go.RowKit
set_option maxRecDepth 100000
theorem laidOut:laidOutB Tryz.prog=true:=by kernel_rfl
theorem alL:Tryz.prog.readableRec 24=true:=by kernel_rfl
theorem alK:(24:TypeId)<Tryz.prog.types.size:=of_decide_eq_true (by kernel_rfl)
theorem asB:ownKnob Tryz.prog.godebug=none:=by kernel_rfl
end Ab
namespace Ab
open Go
section
variable{α:Type}{enc:α→List AV}{I:Pr}{M:Md}
def Yh(m:Nat)(h:Int)(l:List α):Option Nat:=if 0≤h∧h≤m∧l.length=m then some h.toNat else none
theorem akl(hI:I=al)(hM:M= .al){m j:Nat}{h:Int}{l:List α}(hx:Yh m h l=some j)(hm:m≤1048576):0=0∧I.fR (M.map enc l)=m∧m≤1048576∧I.ny 0 h m∧h.toNat=j:=by
 subst hI;subst hM;unfold Yh at hx
 split at hx
 ·rename_i hc;cases hx;refine⟨rfl,by show(l.map enc).length=m;simpa using hc.2.2,hm,?_,rfl⟩;exact⟨by omega,hc.1,by omega⟩
 ·cases hx
theorem Ue{r:Nat}(hM:M= .al)(l:List α)(k:Nat):AV.sl r ((M.map enc l).take k)=AV.sl r (M.map enc (l.take k)):=by
 subst hM;show AV.sl r ((l.map enc).take k)=AV.sl r ((l.take k).map enc);rw[List.map_take]
end
theorem HH{s:St}{K:St→Prop}(vu:Option (List Fr))(vt:List (Nat×AV))(vb:List (Nat×Ob))(vg:Nat→Option Ob)(vn:Nat)(hk:wk s (rn s vu vt vb vg vn))(h:K (rn s vu vt vb vg vn)): ∃s2,wk s s2∧K s2:=⟨_,hk,h⟩
end Ab
namespace Ab
open Go
section
variable{α β S R:Type}
theorem fin{P:Prop}(k:P:=by cbv;all_goals(repeat' apply And.intro);all_goals first|trivial|rfl|exact aJ (by assumption)):P:=k
theorem bY{P Q:Prop}(f:P→Q)(k:P:=by cbv;all_goals(repeat' apply And.intro);all_goals first|trivial|rfl|exact aJ (by assumption)):Q:=f k
theorem si{c:Bool}{A B:Option R}{v:R}{G1 G2:Prop}(h:(bif c then A else B)=some v)(h1:A=some v→G1)(h2:B=some v→G2):(c=true→G1)∧(c=false→G2):=Eh h rfl h1 h2
theorem bn{A B:Prop}(k:B:=by(repeat' apply And.intro)<;>first|trivial|rfl|exact aJ (by assumption)):A∨B:= .inr k
def rg(a:Nat):Nat→List Nat
 |0=>[]
 |n+1=>a::rg (a+1) n
def on:List Nat→Tree→Tree
 |[],t=>t
 |i::l,t=> .one i (on l t)
theorem lp{W:St→(Ex→St→Prop)→Prop}{s:St}{Q:Ex→St→Prop}{body:(S→Option R)→S→Option R}{n:Nat}{BG:S}{v:R}(h:iter body n BG=some v)(vt:S→List (Nat×AV))(vb:S→List (Nat×Ob))
  (hr: ∀(R:St→Prop) (m:Nat),(∀(st:S) (s':St),iter body m st=some v→wk s' (rn s none (vt st) (vb st) s.g s.nx)→R s')→ ∀st:S,body (iter body m) st=some v→
   W (rn s none (vt st) (vb st) s.g s.nx) (Uu R Q))
  (h0:wk s (rn s none (vt BG) (vb BG) s.g s.nx):=by cbv;all_goals(repeat' apply And.intro);all_goals first|trivial|rfl|exact aJ (by assumption)):PY W s Q:=step_loop h none vt vb (fun _=>s.g) (fun _=>s.nx) h0 hr
theorem lpD{W:St→(Ex→St→Prop)→Prop}{s:St}{Q:Ex→St→Prop}{body:(S→Option R)→S→Option R}{n:Nat}{BG:S}{v:R}(h:iter body n BG=some v)(vd:List Nat)(vt:S→List (Nat×AV))(vb:S→List (Nat×Ob))
  (hr: ∀(R:St→Prop) (m:Nat),(∀(st:S) (s':St),iter body m st=some v→wk s' (rm s vd none (vt st) (vb st) s.g s.nx)→R s')→ ∀st:S,body (iter body m) st=some v→
   W (rm s vd none (vt st) (vb st) s.g s.nx) (Uu R Q))
  (h0:wk s (rm s vd none (vt BG) (vb BG) s.g s.nx):=by cbv;all_goals(repeat' apply And.intro);all_goals first|trivial|rfl|exact aJ (by assumption)):qD W n s Q:=NR h vd none vt vb (fun _=>s.g) (fun _=>s.nx) h0 hr
theorem YI{W:St→(Ex→St→Prop)→Prop}{s:St}{Q:Ex→St→Prop}{N:Nat}(vd:List Nat)(vt:List (Nat×AV))
  (h: ∀R:St→Prop,(∀s',qD W N s' Q→R s')→W (rm s vd none vt [] s.g s.nx) (Uu R Q))
  (hk:wk s (rm s vd none vt [] s.g s.nx):=by cbv;all_goals(repeat' apply And.intro);all_goals first|trivial|rfl|exact aJ (by assumption)|exact ahS (by assumption) (by decide)):qD W (N+1) s Q:=NP vd none vt [] s.g s.nx hk h
def cv(f:Nat)(args:List AV)(r:AV)(g:Nat→Option Ob)(nx:Nat):Prop:=ov PP f∧lA PP f args g nx r g nx
theorem us{call:pz}(hc:Any PP call){ρ f:Nat}{args:List AV}{r:AV}{g:Nat→Option Ob}{nx:Nat}(e:cv f args r g nx):call ρ f args g nx r g nx:=hc.use e.1 e.2
theorem cv.wk{f:Nat}{args args':List AV}{r:AV}{g:Nat→Option Ob}{nx:Nat}(e:cv f args' r g nx)(hw:NC args args')(hi:cr args'=true:=by rfl):cv f args r g nx:=⟨e.1,e.2.aq5 hw hi⟩
theorem cS{f:Nat}{fn:Func}(hf:PP.funcs[f]? =some fn)(c:Code){args:List AV}{g:Nat→Option Ob}{nx:Nat}{r:AV}(ρ:Nat)(tree:Nat→Tree)(dead:Nat→List Nat)(op:List Nat)(n:Nat)(hn:fn.ntmps=n)(rs:List ResultVar){I:Pr}(hI:I=al)
  (hk: ∀call:pz,Any PP call→qA (nP {I:=I,L:=L,ρ:=ρ,sh:=[],tree:=tree,call:=call,op:=op,dead:=dead,cl:=gL,keys:=lQ,eqs:=sO} (fun _=>none) 0 0) c (init n args g nx) (post (nP {I:=I,L:=L,ρ:=ρ,sh:=[],tree:=tree,call:=call,op:=op,dead:=dead,cl:=gL,keys:=lQ,eqs:=sO} (fun _=>none) 0 0) rs fun r1 g1 Ax=>KQ r1 r∧g1=g∧Ax=nx))
  (hb:fn.body=some c:=by kernel_rfl)(hd:cB gL tree c=true:=by kernel_rfl)(W0:fn.results.toList=rs:=by kernel_rfl)(Im:mM args.length n=true:=by rfl)(hr:bX r=true:=by rfl)(hm:(fn.name== "runtime.NumGoroutine")=false:=by kernel_rfl):cv f args r g nx:=
 ⟨enters hf hb hm,Cq lay mixed hf hb hr ρ [] tree dead op gL (sX PP gL) (cl0 gL) 0 hd n hn Im W0 hI hk⟩
theorem yi{f:Nat}{fn:Func}(hf:PP.funcs[f]? =some fn)(c:Code){args:List AV}{g:Nat→Option Ob}{nx:Nat}{r:AV}(ρ:Nat)(tree:Nat→Tree)(dead:Nat→List Nat)(op:List Nat)(n:Nat)(hn:fn.ntmps=n)(rs:List ResultVar){I:Pr}(hI:I=al){T:Nat→Option FI}(hT:bp PP gL T)(fuel:Nat)
  (hk: ∀call:pz,Any PP call→qA (nP {I:=I,L:=L,ρ:=ρ,sh:=[],tree:=tree,call:=call,op:=op,dead:=dead,cl:=gL,keys:=lQ,eqs:=sO} T fuel 0) c (init n args g nx) (post (nP {I:=I,L:=L,ρ:=ρ,sh:=[],tree:=tree,call:=call,op:=op,dead:=dead,cl:=gL,keys:=lQ,eqs:=sO} T fuel 0) rs fun r1 g1 Ax=>KQ r1 r∧g1=g∧Ax=nx))
  (hb:fn.body=some c:=by kernel_rfl)(hd:cB gL tree c=true:=by kernel_rfl)(W0:fn.results.toList=rs:=by kernel_rfl)(Im:mM args.length n=true:=by rfl)(hr:bX r=true:=by rfl)(hm:(fn.name== "runtime.NumGoroutine")=false:=by kernel_rfl)
  (jh: ∀k,gL k=true→vP T k=false:=by repeat'(first|exact cl0 gL|refine Kz (by kernel_rfl) ?_)):cv f args r g nx:=
 ⟨enters hf hb hm,Cq lay mixed hf hb hr ρ [] tree dead op gL hT jh fuel hd n hn Im W0 hI hk⟩
end
section
variable{α:Type}{enc:α→List AV}{M:Md}
theorem eF{r:Nat}{l0 l:List α}{u:Unit}(hM:M= .al)(h:eQ (M.ln l0) l=some u){X:List (List AV)}(hX:X=List.take (M.ln l0) (M.map enc l):=by first|rfl|rw[List.take.eq_def]):AV.sl r X=AV.sl r (M.map enc l):=by
 rw[hX];exact aaX hM h
theorem arf{r:Nat}(hM:M= .al)(l:List α)(k:Nat){X:List (List AV)}(hX:X=List.take k (M.map enc l):=by first|rfl|rw[List.take.eq_def]):AV.sl r X=AV.sl r (M.map enc (l.take k)):=by
 rw[hX];exact Ue hM l k
end
end Ab
namespace Ab
open Go
theorem kn2{M:Md}(hM:M= .al){r:Nat}{l:List ai}{B C K:Prop}(k:K)(b:B:=by first|assumption|exact⟨rfl,by assumption⟩)
  (c:C:=by(try cbv);(repeat' apply And.intro);all_goals first|trivial|exact Sf (by assumption) (by assumption) rfl _|exact aaC (by assumption) (by assumption) _|(refine ahJ (by assumption) ?_;simp[pC,Em,uc])):
  (Q2 (.agg [.sl r (M.map (ay M r) l)])∧B∧C)∧K:=⟨⟨X1 hM _,b,c⟩,k⟩
end Ab
namespace Ab
open Go
variable{α:Type}
def sj(l:List (List α))(k:Nat):Option (List α):=(gK l k).bind fun r=>match r with|[]=>none|x::s=>some (x::s)
def ggM(l:List (List α))(k j:Nat):Option α:=(sj l k).bind fun r=>gK r j
def Ge(l:List (List α))(k:Nat)(r:List α):Option (List (List α)):=(gK l k).bind fun s=>match s,r with|[],x::t=>some (l.set k (x::t))|_,_=>none
def gsM(l:List (List α))(k j:Nat)(v:α):Option (List (List α)):=(sj l k).bind fun r=>(nO r j v).bind fun r'=>some (l.set k r')
theorem Gd{l:List (List α)}{k:Nat}{r:List α}(h:sj l k=some r):gK l k=some r∧r≠[]:=by
 unfold sj at h;cases e:gK l k with
 |none=>rw[e]at h;cases h
 |some s=>
  rw[e,aw]at h;cases s with
  |nil=>cases h
  |cons x t=>cases h;exact⟨rfl,List.cons_ne_nil _ _⟩
theorem AW{l:List (List α)}{k:Nat}{r:List α}(h:gK l k=some r)(hr:r≠[]):sj l k=some r:=by
 unfold sj;rw[h,aw];cases r with
 |nil=>exact absurd rfl hr
 |cons x t=>rfl
theorem Xu{l:List (List α)}{k:Nat}{r:List α}(h:gK l k=some [])(hr:r≠[]):Ge l k r=some (l.set k r):=by
 unfold Ge;rw[h,aw];cases r with
 |nil=>exact absurd rfl hr
 |cons x t=>rfl
theorem Xv{l m:List (List α)}{k:Nat}{r:List α}(h:Ge l k r=some m):gK l k=some []∧r≠[]∧m=l.set k r:=by
 unfold Ge at h;cases e:gK l k with
 |none=>rw[e]at h;cases h
 |some s=>
  rw[e,aw]at h;cases s with
  |cons x t=>cases h
  |nil=>
   cases r with
   |nil=>cases h
   |cons x t=>cases h;exact⟨rfl,List.cons_ne_nil _ _,rfl⟩
theorem aiZ{l m:List (List α)}{k j:Nat}{v:α}(h:gsM l k j v=some m): ∃r,gK l k=some r∧r≠[]∧j<r.length∧m=l.set k (r.set j v):=by
 unfold gsM at h;cases e:sj l k with
 |none=>rw[e]at h;cases h
 |some r=>
  obtain⟨h1,h2⟩:=Gd e;rw[e,aw]at h;unfold nO at h;by_cases hj:j<r.length
  ·rw[if_pos hj,aw]at h;cases h;exact⟨r,h1,h2,hj,rfl⟩
  ·rw[if_neg hj]at h;cases h
theorem Xq{l:List (List α)}{k j:Nat}{v:α}{r:List α}(h:gK l k=some r)(hj:j<r.length):gsM l k j v=some (l.set k (r.set j v)):=by
 unfold gsM;rw[AW h (by intro e;subst e;simp at hj),aw];unfold nO;rw[if_pos hj];rfl
theorem ai1{l:List (List α)}{k j:Nat}{x:α}(h:ggM l k j=some x): ∃r,gK l k=some r∧gK r j=some x:=by
 unfold ggM at h;cases e:sj l k with
 |none=>rw[e]at h;cases h
 |some r=>rw[e]at h;exact⟨r,(Gd e).1,h⟩
theorem ai0{l:List (List α)}{k j:Nat}{r:List α}{x:α}(h:gK l k=some r)(hj:gK r j=some x):ggM l k j=some x:=by
 unfold ggM;rw[AW h (by intro e;subst e;cases hj),aw];exact hj
end Ab
namespace Ab
open Go
section
variable{α:Type}{enc:α→List AV}{I:Pr}{M:Md}
theorem AX(hM:M= .al){l:List (List α)}{k:Nat}{r:List α}(h:gK l k=some r):(M.map (fun y=>M.map enc y) l)[k]? =some (M.map enc r):=by
 subst hM;show(List.map _ l)[k]? =_;rw[List.getElem?_map];unfold gK at h;rw[h];rfl
theorem ahP{C:dx}(hI:C.I=al)(hM:M= .al){ti:TI}{n:Int}{l:List (List α)}(hx:DI ti.bytes n ([]:List α)=some l):adC C ti n n (M.map (fun y=>M.map enc y) l) (M.ln l):=by
 subst hM;unfold DI at hx
 split at hx
 ·rename_i hr;cases hx;refine⟨rfl,by rw[hI];exact hr,?_,?_⟩
  ·simp[Md.al]
  ·simp[Md.al]
 ·cases hx
theorem Es(hI:I=al)(hM:M= .al){l:List (List α)}{k:Nat}{r:List α}(h:sj l k=some r):aos (M.map (fun y=>M.map enc y) l) k (M.ln r):=by
 obtain⟨h1,h2⟩:=Gd h;refine⟨_,AX hM h1,?_,?_⟩
 ·subst hM;exact List.length_map ..
 ·subst hM;exact List.length_pos_iff.2 h2
theorem QP(hM:M= .al){l:List (List α)}{k j:Nat}{x:α}(h:ggM l k j=some x):aou (M.map (fun y=>M.map enc y) l) k j (enc x):=by
 obtain⟨r,h1,h2⟩:=ai1 h;exact⟨_,AX hM h1,bA hM h2⟩
theorem aby(hI:I=al)(hM:M= .al){l l':List (List α)}{k n:Nat}{r:List α}{u:Unit}(hn:eQ n r=some u)(h:Ge l k r=some l')(hv: ∀y,GJ (enc y)=true:=by intro _;rfl):
  aot (M.map (fun y=>M.map enc y) l) k (M.map enc r) n (M.map (fun y=>M.map enc y) l'):=by
 obtain⟨h1,h2,rfl⟩:=Xv h;unfold eQ at hn
 split at hn
 ·rename_i hl;refine⟨?_,?_,?_,?_,?_⟩
  ·rw[AX hM h1];subst hM;rfl
  ·rw[hl];subst hM;exact List.length_map ..
  ·rw[hl];exact List.length_pos_iff.2 h2
  ·intro c hc;subst hM;obtain⟨y,_,rfl⟩:=List.mem_map.1 hc;exact hv y
  ·subst hM;exact(List.map_set ..).symm
 ·cases hn
theorem QN(hI:I=al)(hM:M= .al){ti:TI}{l l':List (List α)}{k j off z:Nat}{v:α}{cs:List AV}(h:gsM l k j v=some l')(hs: ∀y,bF (enc y) off cs=enc v)(ha:GJ cs=true)(hz:off+ti.size≤z):
  aiY ti (M.map (fun y=>M.map enc y) l) k j off z cs (M.map (fun y=>M.map enc y) l'):=by
 obtain⟨r,h1,h2,h3,rfl⟩:=aiZ h;have hj:gK r j=some r[j]:=fp h3
 refine⟨_,_,AX hM h1,bA hM hj,hz,ha,?_⟩;rw[hs];subst hM;show(List.map _ l).set k ((List.map enc r).set j (enc v))=List.map _ (l.set k (r.set j v));rw[List.map_set,←List.map_set];rfl
theorem am6(hI:I=al)(hM:M= .al){ρ n:Nat}{l:List (List α)}{u:Unit}(h:eQ n l=some u):AV.sl ρ (I.abx ρ n (M.map (fun y=>M.map enc y) l))=AV.sl ρ (M.map (fun y=>[AV.sl ρ (M.map enc y)]) l):=by
 subst hI;subst hM;unfold eQ at h
 split at h
 ·rename_i hl;subst hl;show AV.sl ρ (((List.map (fun y=>List.map enc y) l).take l.length).map _)=AV.sl ρ (List.map _ l);rw[List.take_of_length_le (by simp),List.map_map];rfl
 ·cases h
end
end Ab
