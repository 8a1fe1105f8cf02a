/- PassesPuts holds of every core (no condition): a part of the proof: an abstract interpreter of the code that is proved sound, models of the functions, and laws of these models. -/
import Derived.Test.YtcdinjhcnhepeaaGreatDoorP01
import Derived.DeepKeys3
import Derived.ChangeArms
import Derived.ChangeSame
import Derived.Test.YtcdinjhcnhepeaaGreatDoorCards
import Derived.Test.YtcdinjhcnhepeaaGreatDoorTie
import Derived.ProofKit
import Derived.OpenShut
import Derived.WideKeyArgs
import Derived.Deep.DeepHandedRow
import Derived.Lib.LaidTab
import Derived.KernelRfl
set_option linter.unusedVariables false
set_option linter.unusedSimpArgs false
namespace Ab
open Go
variable{P:Program}{L:nv}{E:Env}{w0 w w':World}{r:Nat}{a:Act}{n:Nat}{t bj:List (Nat×Value)}{row:List (Value→Prop)}
structure xk(row:List (Value→Prop)):Prop where
 zk: ∀S∈row,∀u,S u→S (zk u)
 one: ∀S∈row,∀u,S u→qV u=true
 pos:0<row.length
theorem WO(hL:bk P L)(h:fE E r w0 w)(hw:Wf E)(hr:1000000≤r)(hf:lF n a t){ops:Array Oper}{o:Oper}{rest:List Oper}{Q:Exit→Act→World→Prop}{c:Call}{x T e:Nat}{ti te:TI}{v:Value}(ho:o.op= .call c)(hc:c.callee= .builtin .clear)(ha:c.args= #[.tmp x])(hT:c.argTypes= #[T])(hg:o.guard=none)(hd:o.dst=none)
  (hx:look x t=some v)(hv:oq E r row v)(hR:xk row)(ht:L T=some ti)(hk:ti.k= .slice e)(he:L e=some te)(hl:te.zero.length=row.length)(hz: ∀(q:Nat) (S:Value→Prop) (z u:Value),row[q]? =some S→te.zero[q]? =some z→S u→zk u=z)
  (k: ∀w',fE E r w0 w'→Lk E w w'→wpListIn (WF none) 0 P ops Q rest a w'):wpListIn (WF none) 0 P ops Q (o::rest) a w:=by
 obtain⟨w',g1,g2,g3⟩:=h.clear (P:=P) hL hw hr hv (ty:=o.type) ht hk he hR.pos hl hz
 refine wS hg (x:= .tuple #[]) (w':=w') ?_ ?_
 ·simp[execOp,ho,resolve,hc,invoke,builtin,ha,hT,Sem.run_bind,hf.ev hx,g1,Result.andThen]
 ·rw[hd];exact k w' g2 g3
theorem aj7(hL:bk P L)(hw:Wf E){id T e ts ti tp tv tb:Nat}{o1 o2 o3 o4:Oper}{A:Option Addr}{m c i:Nat}{te:TI}{R:Act→World→Prop}
  (h1:o1.op= .indexAddr T (.tmp ts) (.tmp ti)∧o1.guard=none∧o1.dst=some tp)(h2:o2.op= .load e (.tmp tp)∧o2.guard=none∧o2.dst=some tv)(h3:o3.op= .alloc e∧o3.guard=none∧o3.dst=some tb)(h4:o4.op= .store e (.tmp tb) (.tmp tv)∧o4.guard=none∧o4.dst=none)
  (aS:(rm tp n&&(rm tv n&&rm tb n))=true)(cU:tp≠tv∧tv≠tb∧look tp bj=none∧look tv bj=none∧tp≠tb)(rH:elemOf L T=some (e,te))(he:L e=some te)(so:te.agg=true)(dC:te.size=row.length)
  (hs:look ts bj=some (.slice A m c))(hi:look ti bj=some (.int .i64 i))(lG:i<m)(hv:oq E r row (.slice A m c))(hR:xk row)(hf:lF n a bj)(h:fE E r w0 w)
  (k: ∀a' w' B (ys:List Value),E.h.size≤B→w'.heap[B]? =some (.cells ys.toArray e (0,0))→ys.length=row.length→(∀(q:Nat) (S:Value→Prop) (y:Value),row[q]? =some S→ys[q]? =some y→S y)→
   lF n a' (cX tb (.pointer (some ⟨B,0,none⟩)) bj)→fE E r w0 w'→Lk E w w'→R a' w'):
  (Code.region id #[o1,o2,o3,o4] false).wpIn (WF none) 0 P (NE R) a w:=by
 simp only[Bool.and_eq_true]at aS
 obtain⟨b,o,rfl,ys,y1,y2,y3⟩:=h.row hw hv hR.zk lG
 have fF: ∀{d:Nat} {x y:Value} {t:List (Nat×Value)} {e:Nat},e≠d→look d t=some y→look d (cX e x t)=some y:=fun hh hy=>by rw[aF,if_neg hh];exact hy
 have nek: ∀{d e:Nat} {x:Value},look e bj=none→look d bj=some x→e≠d:=fun h1 h2 hh=>by subst hh;rw[h1]at h2;cases h2
 refine WJ ?_
 refine WN hL hf h1.1 h1.2.1 h1.2.2 aS.1 rH hs hi lG fun a1 f1=>?_
 rw[dC]at f1
 refine WM hL f1 (ys:=ys) h2.1 h2.2.1 h2.2.2 aS.2.1 he so (by rw[dC];exact y1) (bK _ _ _) (fun j y hj=>y2 j y hj) fun a2 f2=>?_
 refine WQ hL f2 h3.1 h3.2.1 h3.2.2 aS.2.2 he fun a3 f3=>?_
 have xT: ∀x∈ys,qV x=true:=fun x hx=>by
  obtain⟨q,hq⟩:=List.getElem?_of_mem hx
  have wq:q<row.length:=by rw[←y1];exact(List.getElem?_eq_some_iff.1 hq).1
  exact hR.one _ (List.getElem_mem wq) _ (y3 q _ x (List.getElem?_eq_getElem wq) hq)
 refine Re (ys:=ys) hL f3 h4.1 h4.2.1 h4.2.2 he (by rw[dC];exact y1) xT (bK _ _ _) (fF (Ne.symm cU.2.1) (bK _ _ _)) (Gn _) (by rw[List.size_toArray];exact(hL.ok e te he).K0) fun w1 g1 g2=>?_
 have MF:w.heap.size<(w.alloc (.cells te.zero.toArray e)).heap.size:=by show _<(w.heap.push _).size;rw[Array.size_push];omega
 refine wpListIn_nil ⟨rfl,k _ _ w.heap.size ys h.size ?_ y1 y3 ?_ ((h.alloc _).anE h.size g1 g2) ?_⟩
 ·rw[g1];rw[Array.getElem?_setIfInBounds_self_of_lt MF]
 ·refine f3.sub fun d x hd=>?_
  rw[aF]at hd ⊢
  by_cases hbd:tb=d
  ·rw[if_pos hbd]at hd ⊢;exact hd
  ·rw[if_neg hbd]at hd ⊢
   rw[aF,if_neg (nek cU.2.2.2.1 hd),aF,if_neg (nek cU.2.2.1 hd)];exact hd
 ·refine⟨by rw[g1,Array.size_setIfInBounds];omega,fun b' eQ B4=>?_⟩
  rw[g1,Array.getElem?_setIfInBounds_ne (by omega)]
  exact(Lk.alloc (.cells te.zero.toArray e)).2 b' eQ B4
theorem PN(hL:bk P L){id T f tb tp tv tn ti B off e T2 e2:Nat}{Li:TI}{o1 o2 o3 o4:Oper}{cl:Call}{ys:List Value}{A:Option Addr}{m c:Nat}{R:Act→World→Prop}
  (h1:o1.op= .fieldAddr T (.tmp tb) f∧o1.guard=none∧o1.dst=some tp)(h2:o2.op= .load T2 (.tmp tp)∧o2.guard=none∧o2.dst=some tv)(h3:o3.op= .call cl∧o3.guard=none∧o3.dst=some tn)(iK:cl.callee= .builtin .len∧cl.args= #[.tmp tv]∧cl.argTypes= #[T2])
  (h4:o4.op= .move (.const (.int .i64 0))∧o4.guard=none∧o4.dst=some ti)
  (aS:(rm tp n&&(rm tv n&&(rm tn n&&rm ti n)))=true)(cU:tp≠tv∧tp≠tn∧tp≠ti∧tv≠tn∧tv≠ti∧tn≠ti∧look tp bj=none∧look tv bj=none∧look tn bj=none)(DT:gb L T f=some off)(Xy:L T2=some Li)(DW:Li.k= .slice e2)(KT:Li.size=1)
  (hb:look tb bj=some (.pointer (some ⟨B,0,none⟩)))(hw:w.heap[B]? =some (.cells ys.toArray e (0,0)))(hy:ys[off]? =some (.slice A m c))(hf:lF n a bj)
  (k: ∀a',lF n a' (cX ti (.int .i64 0) (cX tn (.int .i64 m) (cX tv (.slice A m c) bj)))→R a' w):
  (Code.region id #[o1,o2,o3,o4] false).wpIn (WF none) 0 P (NE R) a w:=by
 simp only[Bool.and_eq_true]at aS
 refine WJ ?_
 refine NB hL hf h1.1 h1.2.1 h1.2.2 aS.1 hb DT fun a1 f1=>?_
 rw[Nat.zero_add]at f1
 refine NA hL f1 (y:= .slice A m c) h2.1 h2.2.1 h2.2.2 aS.2.1 Xy (by unfold TI.agg;rw[DW]) KT (bK _ _ _) (by unfold aO;rw[hw];simpa using hy) fun a2 f2=>?_
 refine ahA hL f2 h3.1 iK.1 iK.2.1 iK.2.2 h3.2.1 h3.2.2 aS.2.2.1 Xy DW (bK _ _ _) fun a3 f3=>?_
 refine Rf f3 h4.1 h4.2.1 h4.2.2 aS.2.2.2 (v:= .int .i64 0) rfl fun a4 f4=>?_
 refine wpListIn_nil ⟨rfl,k a4 (f4.sub fun d x hd=>?_)⟩
 rw[aF]at hd ⊢
 by_cases e1:ti=d
 ·rw[if_pos e1]at hd ⊢;exact hd
 ·rw[if_neg e1]at hd ⊢
  rw[aF]at hd ⊢
  by_cases e2:tn=d
  ·rw[if_pos e2]at hd ⊢;exact hd
  ·rw[if_neg e2]at hd ⊢
   rw[aF]at hd ⊢
   by_cases e3:tv=d
   ·rw[if_pos e3]at hd ⊢;exact hd
   ·rw[if_neg e3]at hd ⊢
    rw[aF,if_neg (fun hh=>by subst hh;rw[cU.2.2.2.2.2.2.1]at hd;cases hd)];exact hd
theorem Kn(hL:bk P L)(hW:Wf E)(hr:1000000≤r){id T f tb tp tv B off e T2 e2:Nat}{Li te:TI}{o1 o2 o3:Oper}{cl:Call}{ys:List Value}{v:Value}{R:Act→World→Prop}
  (h1:o1.op= .fieldAddr T (.tmp tb) f∧o1.guard=none∧o1.dst=some tp)(h2:o2.op= .load T2 (.tmp tp)∧o2.guard=none∧o2.dst=some tv)(h3:o3.op= .call cl∧o3.guard=none∧o3.dst=none)(iK:cl.callee= .builtin .clear∧cl.args= #[.tmp tv]∧cl.argTypes= #[T2])
  (aS:(rm tp n&&rm tv n)=true)(cU:look tp bj=none∧look tv bj=none)(DT:gb L T f=some off)(Xy:L T2=some Li)(DW:Li.k= .slice e2)(KT:Li.size=1)(he2:L e2=some te)
  (hl:te.zero.length=row.length)(hz: ∀(q:Nat) (S:Value→Prop) (z u:Value),row[q]? =some S→te.zero[q]? =some z→S u→zk u=z)
  (hb:look tb bj=some (.pointer (some ⟨B,0,none⟩)))(hw:w.heap[B]? =some (.cells ys.toArray e (0,0)))(hy:ys[off]? =some v)(hv:oq E r row v)(hR:xk row)(hf:lF n a bj)(h:fE E r w0 w)
  (k: ∀a' w',lF n a' bj→fE E r w0 w'→Lk E w w'→R a' w'):
  (Code.region id #[o1,o2,o3] false).wpIn (WF none) 0 P (NE R) a w:=by
 simp only[Bool.and_eq_true]at aS
 refine WJ ?_
 refine NB hL hf h1.1 h1.2.1 h1.2.2 aS.1 hb DT fun a1 f1=>?_
 rw[Nat.zero_add]at f1
 refine NA hL f1 (y:=v) h2.1 h2.2.1 h2.2.2 aS.2 Xy (by unfold TI.agg;rw[DW]) KT (bK _ _ _) (by unfold aO;rw[hw];simpa using hy) fun a2 f2=>?_
 refine WO hL h hW hr f2 h3.1 iK.1 iK.2.1 iK.2.2 h3.2.1 h3.2.2 (bK _ _ _) hv hR Xy DW he2 hl hz fun w' g1 g2=>?_
 refine wpListIn_nil ⟨rfl,k a2 w' (f2.sub fun d x hd=>?_) g1 g2⟩
 rw[aF,if_neg (fun hh=>by subst hh;rw[cU.2]at hd;cases hd),aF,if_neg (fun hh=>by subst hh;rw[cU.1]at hd;cases hd)];exact hd
def ZV(v:Value):Prop:= ∃m,v= .int .i64 m
def isS(v:Value):Prop:= ∃s,v= .string s
def KD:List (Value→Prop):=[ZV]
def HC(E:Env)(r:Nat):List (Value→Prop):=[ZV,isS,ZV,oq E r KD]
def Fl(E:Env)(r:Nat):List (Value→Prop):=[isS,ZV,oq E r (HC E r),ZV]
def AL(E:Env)(r:Nat):List (Value→Prop):=[isS,ZV,oq E r (Fl E r)]
theorem K1{u:Value}(h:ZV u):zk u= .int .i64 0:=by obtain⟨m,rfl⟩:=h;rfl
theorem Vj{u:Value}(h:isS u):zk u= .string ⟨#[]⟩:=by obtain⟨m,rfl⟩:=h;rfl
def Oo(S:Value→Prop):Prop:=(∀u,S u→S (zk u))∧ ∀u,S u→qV u=true
theorem Iq:Oo ZV:=⟨fun u h=>⟨0,K1 h⟩,fun u h=>by obtain⟨m,rfl⟩:=h;rfl⟩
theorem MT:Oo isS:=⟨fun u h=>⟨_,Vj h⟩,fun u h=>by obtain⟨m,rfl⟩:=h;rfl⟩
theorem MU{row:List (Value→Prop)}:Oo (oq E r row):=⟨fun u h=>by rw[h.zk];exact .nil,fun u h=>by obtain⟨A,m,c,rfl,_⟩:=h;rfl⟩
theorem Ny{row:List (Value→Prop)}(h: ∀S∈row,Oo S)(h0:0<row.length):xk row:=⟨fun S hS=>(h S hS).1,fun S hS=>(h S hS).2,h0⟩
theorem Ze:xk KD:=Ny (by simp[KD,Iq]) (by decide)
theorem SQ:xk (HC E r):=Ny (by simp[HC,Iq,MT,MU]) (by simp[HC])
theorem Uv:xk (Fl E r):=Ny (by simp[Fl,Iq,MT,MU]) (by simp[Fl])
theorem Uz:xk (AL E r):=Ny (by simp[AL,Iq,MT,MU]) (by simp[AL])
noncomputable def c25:Code:=Go.Proofs.Tryz.f25.body.get (by kernel_rfl)
def aat(r:Nat)(a:AV):Prop:= ∃xs,a= .sl r xs∧ ∀l∈xs,∃m,l=[.v (.int .i64 m)]
def aic(r:Nat)(a:AV):Prop:= ∃xs,a= .sl r xs∧ ∀l∈xs,∃k nm m g,l=[.v (.int .i64 k),.v (.string nm),.v (.int .i64 m),g]∧aat r g
def akD(r:Nat)(a:AV):Prop:= ∃xs,a= .sl r xs∧ ∀l∈xs,∃nm k g m,l=[.v (.string nm),.v (.int .i64 k),g,.v (.int .i64 m)]∧aic r g
def akF(r:Nat)(a:AV):Prop:= ∃xs,a= .sl r xs∧ ∀l∈xs,∃nm k g,l=[.v (.string nm),.v (.int .i64 k),g]∧akD r g
def Om(a:AV):Prop:= ∃r xs,a= .agg [.sl r xs]∧akF r (.sl r xs)
theorem Zf{v:Value}{a:AV}(ha:aat r a)(h:Cz E a v):oq E r KD v:=by
 obtain⟨xs,rfl,hx⟩:=ha
 refine Wz h (fun l hl=>by obtain⟨m,rfl⟩:=hx l hl;rfl) fun l hl q a S hq hS x hc=>?_
 obtain⟨m,rfl⟩:=hx l hl
 match q,hq,hS with
 |0,hq,hS=>cases hq;cases hS;exact⟨m,bH hc⟩
theorem adJ{v:Value}{a:AV}(ha:aic r a)(h:Cz E a v):oq E r (HC E r) v:=by
 obtain⟨xs,rfl,hx⟩:=ha
 refine Wz h (fun l hl=>by obtain⟨_,_,_,_,rfl,_⟩:=hx l hl;rfl) fun l hl q a S hq hS x hc=>?_
 obtain⟨k,nm,m,g,rfl,hg⟩:=hx l hl
 match q,hq,hS with
 |0,hq,hS=>cases hq;cases hS;exact⟨_,bH hc⟩
 |1,hq,hS=>cases hq;cases hS;exact⟨_,bH hc⟩
 |2,hq,hS=>cases hq;cases hS;exact⟨_,bH hc⟩
 |3,hq,hS=>cases hq;cases hS;exact Zf hg hc
theorem agi{v:Value}{a:AV}(ha:akD r a)(h:Cz E a v):oq E r (Fl E r) v:=by
 obtain⟨xs,rfl,hx⟩:=ha
 refine Wz h (fun l hl=>by obtain⟨_,_,_,_,rfl,_⟩:=hx l hl;rfl) fun l hl q a S hq hS x hc=>?_
 obtain⟨nm,k,g,m,rfl,hg⟩:=hx l hl
 match q,hq,hS with
 |0,hq,hS=>cases hq;cases hS;exact⟨_,bH hc⟩
 |1,hq,hS=>cases hq;cases hS;exact⟨_,bH hc⟩
 |2,hq,hS=>cases hq;cases hS;exact adJ hg hc
 |3,hq,hS=>cases hq;cases hS;exact⟨_,bH hc⟩
theorem agj{v:Value}{a:AV}(ha:akF r a)(h:Cz E a v):oq E r (AL E r) v:=by
 obtain⟨xs,rfl,hx⟩:=ha
 refine Wz h (fun l hl=>by obtain⟨_,_,_,rfl,_⟩:=hx l hl;rfl) fun l hl q a S hq hS x hc=>?_
 obtain⟨nm,k,g,rfl,hg⟩:=hx l hl
 match q,hq,hS with
 |0,hq,hS=>cases hq;cases hS;exact⟨_,bH hc⟩
 |1,hq,hS=>cases hq;cases hS;exact⟨_,bH hc⟩
 |2,hq,hS=>cases hq;cases hS;exact agi hg hc
theorem ag5{row:List (Value→Prop)}{zs:List Value}(h: ∀(q:Nat) (S:Value→Prop) (z:Value),row[q]? =some S→zs[q]? =some z→ ∀u,S u→zk u=z): ∀(q:Nat) (S:Value→Prop) (z u:Value),row[q]? =some S→zs[q]? =some z→S u→zk u=z:=
 fun q S z u h1 h2 h3=>h q S z h1 h2 u h3
def Bx(E:Env)(w:World)(B e:Nat)(row:List (Value→Prop)):Prop:=E.h.size≤B∧ ∃ys:List Value,w.heap[B]? =some (.cells ys.toArray e (0,0))∧ys.length=row.length∧ ∀(q:Nat) (S:Value→Prop) (y:Value),row[q]? =some S→ys[q]? =some y→S y
theorem Bx.mono{B e:Nat}(h:Bx E w B e row)(k:Lk E w w'):Bx E w' B e row:=by
 obtain⟨h1,ys,h2,h3⟩:=h
 exact⟨h1,ys,k.get h1 h2,h3⟩
theorem Ug(hw:Wf E){id T e ts ti tp tv tb:Nat}{o1 o2 o3 o4:Oper}{A:Option Addr}{m c i:Nat}{te:TI}{y:Code}{wb:World}
  (h1:o1.op= .indexAddr T (.tmp ts) (.tmp ti)∧o1.guard=none∧o1.dst=some tp)(h2:o2.op= .load e (.tmp tp)∧o2.guard=none∧o2.dst=some tv)(h3:o3.op= .alloc e∧o3.guard=none∧o3.dst=some tb)(h4:o4.op= .store e (.tmp tb) (.tmp tv)∧o4.guard=none∧o4.dst=none)
  (aS:(rm tp 40&&(rm tv 40&&rm tb 40))=true)(cU:tp≠tv∧tv≠tb∧look tp bj=none∧look tv bj=none∧tp≠tb)(Vd:look tb bj=none)(rH:elemOf Ab.L T=some (e,te))(he:Ab.L e=some te)(so:te.agg=true)(dC:te.size=row.length)
  (hs:look ts bj=some (.slice A m c))(hi:look ti bj=some (.int .i64 i))(lG:i<m)(hv:oq E r row (.slice A m c))(hR:xk row)(hf:lF 40 a bj)(h:fE E r w0 w∧Lk E wb w)
  (k: ∀a1 w1 B,Bx E w1 B e row→lF 40 a1 (cX tb (.pointer (some ⟨B,0,none⟩)) bj)→fE E r w0 w1→y.wpIn (WF none) 0 PP (NE fun a' w'=>lF 40 a' (cX tb (.pointer (some ⟨B,0,none⟩)) bj)∧fE E r w0 w'∧Lk E w1 w') a1 w1):
  (Code.seq (.region id #[o1,o2,o3,o4] false) y).wpIn (WF none) 0 PP (NE fun a' w'=>lF 40 a' bj∧fE E r w0 w'∧Lk E wb w') a w:=by
 refine OT (R1:=fun a' w'=> ∃B,Bx E w' B e row∧lF 40 a' (cX tb (.pointer (some ⟨B,0,none⟩)) bj)∧fE E r w0 w'∧Lk E wb w') ?_ ?_
 ·exact aj7 lay hw h1 h2 h3 h4 aS cU rH he so dC hs hi lG hv hR hf h.1 fun a' w' B ys e1 e2 e3 e4 e5 e6 e7=>⟨B,⟨e1,ys,e2,e3,e4⟩,e5,e6,h.2.trans e7⟩
 ·rintro a1 w1 ⟨B,e1,e2,e3,e4⟩
  refine wpIn_mono (k a1 w1 B e1 e2 e3) fun e a2 w2 hq=>?_
  obtain⟨rfl,f1,f2,f3⟩:=hq
  exact⟨rfl,ph f1 Vd,f2,e4.trans f3⟩
theorem Io(hw:Wf E)(hr:1000000≤r){id T f tb tp tv B off e T2 e2:Nat}{Li te:TI}{o1 o2 o3:Oper}{cl:Call}{wb:World}{row2:List (Value→Prop)}
  (h1:o1.op= .fieldAddr T (.tmp tb) f∧o1.guard=none∧o1.dst=some tp)(h2:o2.op= .load T2 (.tmp tp)∧o2.guard=none∧o2.dst=some tv)(h3:o3.op= .call cl∧o3.guard=none∧o3.dst=none)(iK:cl.callee= .builtin .clear∧cl.args= #[.tmp tv]∧cl.argTypes= #[T2])
  (aS:(rm tp 40&&rm tv 40)=true)(cU:look tp bj=none∧look tv bj=none)(DT:gb Ab.L T f=some off)(Xy:Ab.L T2=some Li)(DW:Li.k= .slice e2)(KT:Li.size=1)(he2:Ab.L e2=some te)
  (hl:te.zero.length=row2.length)(hz: ∀(q:Nat) (S:Value→Prop) (z:Value),row2[q]? =some S→te.zero[q]? =some z→ ∀u,S u→zk u=z)
  (hb:look tb bj=some (.pointer (some ⟨B,0,none⟩)))(hB:Bx E w B e row)(hS:row[off]? =some (oq E r row2))(hR:xk row2)(hf:lF 40 a bj)(h:fE E r w0 w∧Lk E wb w):
  (Code.region id #[o1,o2,o3] false).wpIn (WF none) 0 PP (NE fun a' w'=>lF 40 a' bj∧fE E r w0 w'∧Lk E wb w') a w:=by
 obtain⟨e1,ys,e2,e3,e4⟩:=hB
 have MF:off<ys.length:=by rw[e3];exact(List.getElem?_eq_some_iff.1 hS).1
 have hy:ys[off]? =some ys[off]:=List.getElem?_eq_getElem MF
 exact Kn lay hw hr h1 h2 h3 iK aS cU DT Xy DW KT he2 hl (ag5 hz) hb e2 hy (e4 off _ _ hS hy) hR hf h.1 fun a' w' f1 f2 f3=>⟨f1,f2,h.2.trans f3⟩
theorem QL{id T f tb tp tv tn ti tc tx B off e T2 e2 k k1 g1 g2:Nat}{Li:TI}{o1 o2 o3 o4 q1 q2 q3:Oper}{cl:Call}{wb:World}{row2:List (Value→Prop)}{body:Code}
  (h1:o1.op= .fieldAddr T (.tmp tb) f∧o1.guard=none∧o1.dst=some tp)(h2:o2.op= .load T2 (.tmp tp)∧o2.guard=none∧o2.dst=some tv)(h3:o3.op= .call cl∧o3.guard=none∧o3.dst=some tn)(iK:cl.callee= .builtin .len∧cl.args= #[.tmp tv]∧cl.argTypes= #[T2])
  (h4:o4.op= .move (.const (.int .i64 0))∧o4.guard=none∧o4.dst=some ti)
  (j1:q1.op= .binOp .lss 3 (.tmp ti) (.tmp tn) 3∧q1.guard=none∧q1.dst=some tc)(j2:q2.op= .binOp .add 3 (.tmp ti) (.const (.int .i64 1)) 3∧q2.guard=none∧q2.dst=some tx)(j3:q3.op= .move (.tmp tx)∧q3.guard=none∧q3.dst=some ti)
  (aS:(rm tp 40&&(rm tv 40&&(rm tn 40&&rm ti 40))&&(rm ti 40&&(rm tc 40&&rm tx 40)))=true)
  (cU:(tp≠tv∧tp≠tn∧tp≠ti∧tv≠tn∧tv≠ti∧tn≠ti)∧look tp bj=none∧look tv bj=none∧look tn bj=none)(aeA:(ti≠tc∧ti≠tx∧ti≠tn∧tv≠tc∧tv≠tx∧tn≠tc∧tn≠tx)∧look ti bj=none∧look tc bj=none∧look tx bj=none)
  (DT:gb Ab.L T f=some off)(Xy:Ab.L T2=some Li)(DW:Li.k= .slice e2)(KT:Li.size=1)
  (hb:look tb bj=some (.pointer (some ⟨B,0,none⟩)))(hB:Bx E w B e row)(hS:row[off]? =some (oq E r row2))(hf:lF 40 a bj)(h:fE E r w0 w∧Lk E wb w)
  (ajJ: ∀A m c i a1 w1,i<m→oq E r row2 (.slice A m c)→lF 40 a1 (cX ti (.int .i64 i) (cX tn (.int .i64 m) (cX tv (.slice A m c) bj)))→fE E r w0 w1∧Lk E wb w1→
   body.wpIn (WF none) 0 PP (NE fun a' w'=>lF 40 a' (cX ti (.int .i64 i) (cX tn (.int .i64 m) (cX tv (.slice A m c) bj)))∧fE E r w0 w'∧Lk E wb w') a1 w1):
  (Code.seq (.region id #[o1,o2,o3,o4] false) (Code.block k (Code.loop ((Code.region g1 #[q1] false).seq ((Code.cond (.tmp tc) .skip (.exit k)).seq ((Code.block k1 body).seq (Code.region g2 #[q2,q3] false))))))).wpIn (WF none) 0 PP (NE fun a' w'=>lF 40 a' bj∧fE E r w0 w'∧Lk E wb w') a w:=by
 obtain⟨e1,ys,e2,e3,e4⟩:=hB
 have MF:off<ys.length:=by rw[e3];exact(List.getElem?_eq_some_iff.1 hS).1
 have hy:ys[off]? =some ys[off]:=List.getElem?_eq_getElem MF
 have MB:=e4 off _ _ hS hy
 generalize ys[off]=v at hy MB
 have aoK:=MB
 obtain⟨A,m,c,rfl,hm,_⟩:=MB
 rw[Bool.and_eq_true]at aS
 obtain⟨⟨m1,m2,m3,m4,m5,m6⟩,m7,m8,m9⟩:=cU
 obtain⟨⟨n1,n2,n3,n4,n5,n6,n7⟩,n8,n9,JJ⟩:=aeA
 have up: ∀{d:Nat},tv≠d→tn≠d→look d bj=none→look d (cX tn (Value.int .i64 m) (cX tv (.slice A m c) bj))=none:=fun ha hb hc=>by rw[aF,if_neg hb,aF,if_neg ha];exact hc
 refine OT (R1:=fun a' w'=>w'=w∧lF 40 a' (cX ti (.int .i64 0) (cX tn (.int .i64 m) (cX tv (.slice A m c) bj)))) ?_ ?_
 ·exact PN lay h1 h2 h3 iK h4 aS.1 ⟨m1,m2,m3,m4,m5,m6,m7,m8,m9⟩ DT Xy DW KT hb e2 hy hf fun a' f=>⟨rfl,f⟩
 ·rintro a1 w1 ⟨rfl,f⟩
  refine wpIn_mono (aiw (J:=fun w'=>fE E r w0 w'∧Lk E wb w') j1 j2 j3 aS.2 (bK _ _ _) hm ⟨up m5 m6 n8,up n4 n6 n9,up n5 n7 JJ,n1,n2,n3⟩ f h fun i a w hi hf hJ=>?_) fun e a2 w2 hq=>?_
  ·exact ajJ A m c i a w hi aoK hf hJ
  ·obtain⟨rfl,f1,f2⟩:=hq
   exact⟨rfl,ph (ph f1 (by rw[aF,if_neg m4];exact m9)) m8,f2⟩
theorem PU{f:Nat}{fn:Func}{c:Code}(hf:PP.funcs[f]? =some fn)(hb:fn.body=some c)(hn:fn.ntmps=n)(hr:fn.results= #[]){vs:Array Value}{J:World→Prop}
  (h:c.wpIn (WF none) 0 PP (NE fun a' w'=>lF n a' []∧J w') {tmps:=vs++Array.replicate (n - vs.size) undef,defers:=[]} w):Calls PP f vs w fun e w'=>e= .returned (.tuple #[])∧J w':=by
 subst hn
 refine(callsIn_wide (n:=0)).1 (callsIn_of_wp_marks (F:=Fence.wide) hf hb trivial ?_ rfl)
 refine wpIn_mono (F:=Fence.wide) h fun e a' w' hq=>?_
 obtain⟨rfl,⟨_,f0,_⟩,f2⟩:=hq
 show LeavesInM _ _ _ _ _ _ a'.defers _ _
 rw[f0]
 refine⟨.tuple #[],?_,rfl,f2⟩
 simp[results,hr,go_sem]
theorem ap1:nw PP 25:=enters Go.Proofs.Tryz.func25 (c:=c25) (by kernel_rfl) (by kernel_rfl)
theorem bc{α:Type}(d:Nat):look d ([]:List (Nat×α))=none:=rfl
theorem OO:KH PP 25 Om:=by
 intro E w r xs x hQ hr hh hw hx
 obtain⟨r',xs',Z7,hq2⟩:=hQ
 cases Z7
 obtain⟨v,rfl,hv⟩: ∃v,x= .agg #[v]∧oq E r (AL E r) v:=by
  cases hx with
  |agg _ ys hl hq=>
   match ys,hl with
   |[v],_=>exact⟨v,rfl,agj hq2 (hq 0 _ v rfl rfl)⟩
 have start:lF 40 {tmps:= #[Value.agg #[v]]++Array.replicate (40 - (#[Value.agg #[v]]:Array Value).size) undef,defers:=[]} [(0,.agg #[v])]:=by
  refine⟨by simp,by trivial,fun d x hd=>?_⟩
  rw[aC]at hd
  by_cases h0:0=d
  ·subst h0;rw[if_pos rfl]at hd;cases hd;simp[Array.getD_eq_getD_getElem?]
  ·rw[if_neg h0]at hd;cases hd
 have ajk: ∀{e:Ending} {w':World},(e= .returned (.tuple #[])∧fE E r w w')→e= .returned (.tuple #[])∧j4 E r w w':=fun hq=>⟨hq.1,hq.2.spoilt⟩
 refine(PU (n:=40) (J:=fun w'=>fE E r w w') Go.Proofs.Tryz.func25 (c:=c25) (by kernel_rfl) rfl rfl ?_).mono fun e w'=>ajk
 refine OT (R1:=fun a' w'=> ∃B,Bx E w' B 24 [oq E r (AL E r)]∧lF 40 a' [(1,.pointer (some ⟨B,0,none⟩))]∧fE E r w w') ?_ ?_
 ·refine WJ ?_
  refine ahB start (v:= .agg #[v]) (d:=1) (x:=0) rfl rfl rfl rfl rfl fun a1 f1=>?_
  refine wpListIn_nil ⟨rfl,w.heap.size,⟨by rw[hh];exact Nat.le_refl _,[v],?_,rfl,fun q S y h1 h2=>?_⟩,f1.sub fun d x hd=>?_,(fE.refl hh).alloc _⟩
  ·rw[Gn];simp[Value.cells]
  ·match q,h1,h2 with
   |0,h1,h2=>cases h1;cases h2;exact hv
  ·rw[aF]
   rw[aC]at hd
   by_cases h0:1=d
   ·rw[if_pos h0]at hd ⊢;exact hd
   ·rw[if_neg h0]at hd;cases hd
 rintro a1 w1 ⟨B0,hB0,f1,hI1⟩
 refine wpIn_mono (Q:=NE fun a' w'=>lF 40 a' [(1,.pointer (some ⟨B0,0,none⟩))]∧fE E r w w'∧Lk E w1 w') ?_ ?_
 case refine_2=>intro e a' w' hq;exact⟨hq.1,hq.2.1.sub fun d x hd=>(by cases hd),hq.2.2.1⟩
 refine OT (R1:=fun a' w'=>lF 40 a' [(1,.pointer (some ⟨B0,0,none⟩))]∧fE E r w w'∧Lk E w1 w') ?_ fun a2 w2 PD=>?_
 rotate_left
 ·exact Io hw hr (row:=[oq E r (AL E r)]) (row2:=AL E r) ⟨rfl,rfl,rfl⟩ ⟨rfl,rfl,rfl⟩ ⟨rfl,rfl,rfl⟩ ⟨rfl,rfl,rfl⟩ rfl ⟨by simp[aF,aC,bc],by simp[aF,aC,bc]⟩ rfl rfl rfl rfl rfl rfl (fun q S z h1 h2 u hu=>by
   match q,h1,h2 with
   |0,h1,h2=>cases h1;cases h2;exact Vj hu
   |1,h1,h2=>cases h1;cases h2;exact K1 hu
   |2,h1,h2=>cases h1;cases h2;exact hu.zk) (by rfl) (hB0.mono PD.2.2) rfl Uz PD.1 PD.2
 refine QL (row:=[oq E r (AL E r)]) (row2:=AL E r) ⟨rfl,rfl,rfl⟩ ⟨rfl,rfl,rfl⟩ ⟨rfl,rfl,rfl⟩ ⟨rfl,rfl,rfl⟩ ⟨rfl,rfl,rfl⟩ ⟨rfl,rfl,rfl⟩ ⟨rfl,rfl,rfl⟩ ⟨rfl,rfl,rfl⟩ rfl (by refine⟨by decide,?_,?_,?_⟩<;>simp[aF,aC,bc]) (by refine⟨by decide,?_,?_,?_⟩<;>simp[aF,aC,bc]) rfl rfl rfl rfl (by rfl) hB0 rfl f1 ⟨hI1,.refl⟩ fun A m c i a3 w3 hi MB f3 hJ3=>?_
 refine Ug hw (row:=AL E r) ⟨rfl,rfl,rfl⟩ ⟨rfl,rfl,rfl⟩ ⟨rfl,rfl,rfl⟩ ⟨rfl,rfl,rfl⟩ rfl (by refine⟨by decide,by decide,?_,?_,by decide⟩<;>simp[aF,aC,bc]) (by simp[aF,aC,bc]) rfl rfl rfl rfl (by simp[aF,aC,bc]) (by simp[aF,aC,bc]) hi MB Uz f3 hJ3 fun a4 w4 B1 hB1 f4 hI4=>?_
 refine OT (R1:=fun a' w'=>lF 40 a' (cX 3 (.pointer (some ⟨B1,0,none⟩)) (cX 11 (.int .i64 i) (cX 10 (.int .i64 m) (cX 9 (.slice A m c) [(1,.pointer (some ⟨B0,0,none⟩))]))))∧fE E r w w'∧Lk E w4 w') ?_ fun a5 w5 hq5=>?_
 rotate_left
 ·exact Io hw hr (row:=AL E r) (row2:=Fl E r) ⟨rfl,rfl,rfl⟩ ⟨rfl,rfl,rfl⟩ ⟨rfl,rfl,rfl⟩ ⟨rfl,rfl,rfl⟩ rfl ⟨by simp[aF,aC,bc],by simp[aF,aC,bc]⟩ rfl rfl rfl rfl rfl rfl (fun q S z h1 h2 u hu=>by
   match q,h1,h2 with
   |0,h1,h2=>cases h1;cases h2;exact Vj hu
   |1,h1,h2=>cases h1;cases h2;exact K1 hu
   |2,h1,h2=>cases h1;cases h2;exact hu.zk
   |3,h1,h2=>cases h1;cases h2;exact K1 hu) (by simp[aF,aC,bc]) (hB1.mono hq5.2.2) rfl Uv hq5.1 hq5.2
 refine QL (row:=AL E r) (row2:=Fl E r) ⟨rfl,rfl,rfl⟩ ⟨rfl,rfl,rfl⟩ ⟨rfl,rfl,rfl⟩ ⟨rfl,rfl,rfl⟩ ⟨rfl,rfl,rfl⟩ ⟨rfl,rfl,rfl⟩ ⟨rfl,rfl,rfl⟩ ⟨rfl,rfl,rfl⟩ rfl (by refine⟨by decide,?_,?_,?_⟩<;>simp[aF,aC,bc]) (by refine⟨by decide,?_,?_,?_⟩<;>simp[aF,aC,bc]) rfl rfl rfl rfl (by simp[aF,aC,bc]) hB1 rfl f4 ⟨hI4,.refl⟩ fun A1 m1 c1 i1 a6 w6 hi1 aoJ f6 hJ6=>?_
 refine Ug hw (row:=Fl E r) ⟨rfl,rfl,rfl⟩ ⟨rfl,rfl,rfl⟩ ⟨rfl,rfl,rfl⟩ ⟨rfl,rfl,rfl⟩ rfl (by refine⟨by decide,by decide,?_,?_,by decide⟩<;>simp[aF,aC,bc]) (by simp[aF,aC,bc]) rfl rfl rfl rfl (by simp[aF,aC,bc]) (by simp[aF,aC,bc]) hi1 aoJ Uv f6 hJ6 fun a7 w7 B2 hB2 f7 hI7=>?_
 refine OT (R1:=fun a' w'=>lF 40 a' (cX 5 (.pointer (some ⟨B2,0,none⟩)) (cX 18 (.int .i64 i1) (cX 17 (.int .i64 m1) (cX 16 (.slice A1 m1 c1) (cX 3 (.pointer (some ⟨B1,0,none⟩)) (cX 11 (.int .i64 i) (cX 10 (.int .i64 m) (cX 9 (.slice A m c) [(1,.pointer (some ⟨B0,0,none⟩))]))))))))∧fE E r w w'∧Lk E w7 w') ?_ fun a8 w8 hq8=>?_
 rotate_left
 ·exact Io hw hr (row:=Fl E r) (row2:=HC E r) ⟨rfl,rfl,rfl⟩ ⟨rfl,rfl,rfl⟩ ⟨rfl,rfl,rfl⟩ ⟨rfl,rfl,rfl⟩ rfl ⟨by simp[aF,aC,bc],by simp[aF,aC,bc]⟩ rfl rfl rfl rfl rfl rfl (fun q S z h1 h2 u hu=>by
   match q,h1,h2 with
   |0,h1,h2=>cases h1;cases h2;exact K1 hu
   |1,h1,h2=>cases h1;cases h2;exact Vj hu
   |2,h1,h2=>cases h1;cases h2;exact K1 hu
   |3,h1,h2=>cases h1;cases h2;exact hu.zk) (by simp[aF,aC,bc]) (hB2.mono hq8.2.2) rfl SQ hq8.1 hq8.2
 refine QL (row:=Fl E r) (row2:=HC E r) ⟨rfl,rfl,rfl⟩ ⟨rfl,rfl,rfl⟩ ⟨rfl,rfl,rfl⟩ ⟨rfl,rfl,rfl⟩ ⟨rfl,rfl,rfl⟩ ⟨rfl,rfl,rfl⟩ ⟨rfl,rfl,rfl⟩ ⟨rfl,rfl,rfl⟩ rfl (by refine⟨by decide,?_,?_,?_⟩<;>simp[aF,aC,bc]) (by refine⟨by decide,?_,?_,?_⟩<;>simp[aF,aC,bc]) rfl rfl rfl rfl (by simp[aF,aC,bc]) hB2 rfl f7 ⟨hI7,.refl⟩ fun A2 m2 c2 i2 a9 w9 hi2 aoI f9 hJ9=>?_
 refine Ug hw (row:=HC E r) ⟨rfl,rfl,rfl⟩ ⟨rfl,rfl,rfl⟩ ⟨rfl,rfl,rfl⟩ ⟨rfl,rfl,rfl⟩ rfl (by refine⟨by decide,by decide,?_,?_,by decide⟩<;>simp[aF,aC,bc]) (by simp[aF,aC,bc]) rfl rfl rfl rfl (by simp[aF,aC,bc]) (by simp[aF,aC,bc]) hi2 aoI SQ f9 hJ9 fun a10 w10 B3 hB3 f10 apA=>?_
 exact Io hw hr (row:=HC E r) (row2:=KD) ⟨rfl,rfl,rfl⟩ ⟨rfl,rfl,rfl⟩ ⟨rfl,rfl,rfl⟩ ⟨rfl,rfl,rfl⟩ rfl ⟨by simp[aF,aC,bc],by simp[aF,aC,bc]⟩ rfl rfl rfl rfl rfl rfl (fun q S z h1 h2 u hu=>by
  match q,h1,h2 with
  |0,h1,h2=>cases h1;cases h2;exact K1 hu) (by simp[aF,aC,bc]) hB3 rfl Ze f10 ⟨apA,.refl⟩
end Ab
namespace Ab
open Go
def vc(P:Program)(t:Nat)(k:VK):Bool:=match P.underlying t,k with
 |some (.int q),.int q'=>q==q'
 |some .string,.str=>true
 |some .bool,.bool=>true
 |_,_=>false
def Qp(P:Program):List Field→List VK→Nat→Bool
 |[],[],_=>true
 |f::fs,k::ks,off=>(f.name != "_")&&(du f.offset off&&(vc P f.type k&&Qp P fs ks (off+1)))
 |_,_,_=>false
section
variable{P:Program}
theorem pV{t:Nat}{k:VK}(h:vc P t k=true):P.plainKey t=true:=by
 unfold vc at h
 unfold Program.plainKey
 split at h<;>first|(cases h;done)|(rename_i hu;rw[hu])
theorem Of{t:Nat}{k:VK}(h:vc P t k=true)(d:Nat){a b:Value}{r:List VK}{q q':List Value}(ha:bw (k::r) (a::q)=true)(hb:bw (k::r) (b::q')=true): ∃x:Bool,(x=true↔a=b)∧ ∀w,(Op.equalIn (d+1) t a b).run P w= .ok x w:=by
 unfold vc at h
 split at h
 ·rename_i qk q0 hu
  have:qk=q0:=by simpa using h
  subst this
  cases a<;>simp[bw]at ha
  cases b<;>simp[bw]at hb
  rename_i k1 n1 k2 n2
  obtain⟨rfl,_⟩:=ha
  obtain⟨rfl,_⟩:=hb
  exact⟨n1==n2,by simp,fun w=>run_equalIn_int w d t _ _ n1 n2 hu⟩
 ·rename_i hu
  cases a<;>simp[bw]at ha
  cases b<;>simp[bw]at hb
  rename_i s1 s2
  refine⟨s1.toList==s2.toList,?_,fun w=>run_equalIn_string w d t s1 s2 hu⟩
  rw[←beq_toListBytes]
  obtain⟨⟨x⟩⟩:=s1
  obtain⟨⟨y⟩⟩:=s2
  show((⟨x⟩:Array UInt8)==⟨y⟩)=true↔_
  simp
 ·rename_i hu
  cases a<;>simp[bw]at ha
  cases b<;>simp[bw]at hb
  rename_i s1 s2
  exact⟨s1==s2,by simp,fun w=>run_equalIn_bool w d t s1 s2 hu⟩
 ·cases h
theorem pk{k:VK}{r:List VK}{a:Value}{q:List Value}(h:bw (k::r) (a::q)=true):bw r q=true:=by
 cases k<;>cases a<;>simp_all [bw]
theorem ur(d:Nat)(xs ys:Array Value): ∀(fs:List Field) (ks:List VK) (off:Nat) (xr yr:List Value),Qp P fs ks off=true→bw ks xr=true→bw ks yr=true→
  (∀j v,xr[j]? =some v→xs[off+j]? =some v)→(∀j v,yr[j]? =some v→ys[off+j]? =some v)→ ∃b:Bool,(b=true↔xr=yr)∧ ∀w,(Op.eqFields (d+1) xs ys fs).run P w= .ok b w
 |[],[],off,[],[],_,_,_,_,_=>⟨true,by simp,fun w=>by simp[Op.eqFields]⟩
 |f::fs,k::ks,off,a::xr,b::yr,h,hx,hy,gx,gy=>by
  simp only[Qp,Bool.and_eq_true,bne_iff_ne,ne_eq]at h
  obtain⟨h1,h2,h3,h4⟩:=h
  have h2:=dy h2
  obtain⟨r,hr1,Vc⟩:=Of h3 d hx hy
  obtain⟨r',hr3,hr4⟩:=ur d xs ys fs ks (off+1) xr yr h4 (pk hx) (pk hy) (fun j v hj=>by have:=gx (j+1) v (by simpa using hj);rwa [show off+1+j=off+(j+1)by omega]) (fun j v hj=>by have:=gy (j+1) v (by simpa using hj);rwa [show off+1+j=off+(j+1)by omega])
  have p1: ∀w,(Go.part f.type xs f.offset).run P w= .ok a w:=fun w=>run_part_plain w (pV h3) (by rw[h2];exact gx 0 a rfl)
  have p2: ∀w,(Go.part f.type ys f.offset).run P w= .ok b w:=fun w=>run_part_plain w (pV h3) (by rw[h2];exact gy 0 b rfl)
  cases r with
  |false=>
   refine⟨false,?_,fun w=>by simp[Op.eqFields,h1,Sem.run_bind,p1,p2,Vc,Result.andThen]⟩
   constructor
   ·intro h;cases h
   ·intro h;injection h with e1 _;exact absurd (hr1.2 e1) (by simp)
  |true=>
   refine⟨r',?_,fun w=>by simp[Op.eqFields,h1,Sem.run_bind,p1,p2,Vc,hr4,Result.andThen]⟩
   rw[hr3,hr1.1 rfl]
   simp
 |[],_::_,_,_,_,h,_,_,_,_=>by simp[Qp]at h
 |_::_,[],_,_,_,h,_,_,_,_=>by simp[Qp]at h
 |_::_,k::_,_,[],_,_,hx,_,_,_=>by cases k<;>simp[bw]at hx
 |_::_,k::_,_,_::_,[],_,_,hy,_,_=>by cases k<;>simp[bw]at hy
 |[],[],_,_::_,_,_,hx,_,_,_=>by simp[bw]at hx
 |[],[],_,[],_::_,_,_,hy,_,_=>by simp[bw]at hy
theorem wV(d:Nat){e:Nat}{k:VK}(hk:vc P e k=true)(hc:P.cellsOf e=1)(xs ys:Array Value): ∀(n off:Nat) (xr yr:List Value),bw (List.replicate n k) xr=true→bw (List.replicate n k) yr=true→
  (∀j v,xr[j]? =some v→xs[off+j]? =some v)→(∀j v,yr[j]? =some v→ys[off+j]? =some v)→ ∃b:Bool,(b=true↔xr=yr)∧ ∀w,(Op.eqItems (d+1) e 1 xs ys (List.range' off n)).run P w= .ok b w
 |0,off,[],[],_,_,_,_=>⟨true,by simp,fun w=>by simp[Op.eqItems]⟩
 |n+1,off,a::xr,b::yr,hx,hy,gx,gy=>by
  rw[List.replicate_succ]at hx hy
  obtain⟨r,hr1,Vc⟩:=Of hk d hx hy
  obtain⟨r',hr3,hr4⟩:=wV d hk hc xs ys n (off+1) xr yr (pk hx) (pk hy) (fun j v hj=>by have:=gx (j+1) v (by simpa using hj);rwa [show off+1+j=off+(j+1)by omega]) (fun j v hj=>by have:=gy (j+1) v (by simpa using hj);rwa [show off+1+j=off+(j+1)by omega])
  have p1: ∀w,(Go.part e xs (off*1)).run P w= .ok a w:=fun w=>run_part_plain w (pV hk) (by rw[Nat.mul_one];exact gx 0 a rfl)
  have p2: ∀w,(Go.part e ys (off*1)).run P w= .ok b w:=fun w=>run_part_plain w (pV hk) (by rw[Nat.mul_one];exact gy 0 b rfl)
  rw[List.range'_succ]
  cases r with
  |false=>
   refine⟨false,?_,fun w=>by rw[Op.eqItems];simp only[Sem.run_bind,p1,p2,Vc,Result.andThen];simp⟩
   constructor
   ·intro h;cases h
   ·intro h;injection h with e1 _;exact absurd (hr1.2 e1) (by simp)
  |true=>
   refine⟨r',?_,fun w=>by rw[Op.eqItems];simp only[Sem.run_bind,p1,p2,Vc,Result.andThen];simpa using hr4 w⟩
   rw[hr3,hr1.1 rfl]
   simp
 |0,_,_::_,_,hx,_,_,_=>by simp[bw]at hx
 |0,_,[],_::_,_,hy,_,_=>by simp[bw]at hy
 |n+1,_,[],_,hx,_,_,_=>by rw[List.replicate_succ]at hx;cases k<;>simp[bw]at hx
 |n+1,_,_::_,[],_,hy,_,_=>by rw[List.replicate_succ]at hy;cases k<;>simp[bw]at hy
theorem CW{t:Nat}{ks:List VK}(ht:P.underlying t=some (.struct (P.fieldsOf t)))(hp:P.stoodInHeld t=false)(hf:Qp P (P.fieldsOf t).toList ks 0=true)(hg:P.eqGuardType P.depth t=false):tW P t ks:=
 ⟨(fun xs ys hx hy=>by
  obtain⟨b,h1,h2⟩:=ur (P:=P) 9998 xs.toArray ys.toArray _ ks 0 xs ys hf hx hy (fun j v h=>by simpa using h) (fun j v h=>by simpa using h)
  exact⟨b,h1,fun w=>(run_equalIn_struct w 9999 t _ _ ht hp).trans (h2 w)⟩),hg⟩
theorem Gl{t e n:Nat}{k:VK}{i:TypeInfo}(ht:P.underlying t=some (.array n e))(hi:P.info? e=some i)(hk:vc P e k=true)(hc:P.cellsOf e=1)(hg:P.eqGuardType P.depth t=false):tW P t (List.replicate n k):=
 ⟨(fun xs ys hx hy=>by
  obtain⟨b,h1,h2⟩:=wV (P:=P) 9998 hk hc xs.toArray ys.toArray n 0 xs ys hx hy (fun j v h=>by simpa using h) (fun j v h=>by simpa using h)
  refine⟨b,h1,fun w=>?_⟩
  rw[run_equalIn_array w 9999 _ _ ht hi,hc,List.range_eq_range']
  exact h2 w),hg⟩
theorem C8{ks:List VK}{kv:List Value}(h:bw ks kv=true):Instr.sameBits 10000 (fD kv) (fD kv)=true:=by
 have cell: ∀{ks:List VK} {kv:List Value},bw ks kv=true→ ∀x∈kv,∀n,Instr.sameBits (n+1) x x=true:=by
  intro ks kv h
  induction kv generalizing ks with
  |nil=>intro x hx;cases hx
  |cons y r ih=>
   cases ks with
   |nil=>simp[bw]at h
   |cons k ks=>
    intro x hx n
    rcases List.mem_cons.1 hx with rfl|hx
    ·cases k<;>cases x<;>simp_all [bw,Instr.sameBits]
     all_goals(rw[beq_toListBytes];simp)
    ·exact ih (pk h) x hx n
 have hz: ∀(l:List Value),(∀x∈l,Instr.sameBits 9999 x x=true)→((l.zip l).all fun(x,y)=>Instr.sameBits 9999 x y)=true:=fun l hl=>by
  induction l with
  |nil=>rfl
  |cons a r ih=>simp only[List.zip_cons_cons,List.all_cons,Bool.and_eq_true];exact⟨hl a (by simp),ih fun x hx=>hl x (by simp[hx])⟩
 match kv,h with
 |[x],h=>exact cell h x (by simp) 9999
 |[],_=>rfl
 |x::y::r,h=>
  show Instr.sameBits 10000 (.agg (x::y::r).toArray) (.agg (x::y::r).toArray)=true
  rw[Instr.sameBits]
  simp only[BEq.rfl,Bool.true_and]
  exact hz _ fun z hz=>cell h z hz 9998
theorem Xu{t:Nat}{q:IntKind}(hu:P.underlying t=some (.int q)):KeyLaw P t [.int q]:=by
 have nj: ∀kv,bw [.int q] kv=true→ ∃n,kv=[.int q n]:=fun kv h=>by
  match kv,h with
  |[x],h=>cases x<;>simp[bw]at h;exact⟨_,by rw[h]⟩
  |[],h=>simp[bw]at h
  |x::y::r,h=>cases x<;>simp[bw]at h
 refine⟨fun kv h b w=>?_,fun kv es h DY w=>?_,fun kv h=>C8 h⟩
 ·obtain⟨n,rfl⟩:=nj kv h
  show(Instr.checkKey b (9999+1) t (.int q n)).run P w=_
  rw[Instr.checkKey]
  simp[Sem.run_bind,run_underlying hu,Result.andThen]
 ·obtain⟨n,rfl⟩:=nj kv h
  have aez: ∀(es:List MapEntry) (i:Nat),(∀e∈es,∃zR,bw [.int q] zR=true∧e.key=fD zR)→Instr.findNow (.int q) (.int q n) es i=some (jY (.int q n) es i):=by
   intro es
   induction es with
   |nil=>intro i _;rfl
   |cons e r ih=>
    intro i DY
    obtain⟨zR,h1,h2⟩:=DY e (by simp)
    obtain⟨m,rfl⟩:=nj zR h1
    have h2:e.key= .int q m:=h2
    unfold Instr.findNow jY
    rw[h2]
    simp only[Instr.sameNow,if_true]
    by_cases hnm:n=m
    ·subst hnm;simp
    ·have cU: ¬(Value.int q m=Value.int q n):=fun e=>by injection e with _ e;exact hnm e.symm
     rw[if_neg cU]
     have:(n==m)=false:=by simpa using hnm
     rw[this]
     exact ih (i+1) fun e he=>DY e (by simp[he])
  simp only[fD]
  simp[Instr.findKey,Sem.run_bind,run_underlying hu,Result.andThen,aez es 0 DY]
theorem BA{b:Bool}(d:Nat)(xs:Array Value): ∀(fs:List Field) (ks:List VK) (off:Nat) (xr:List Value),Qp P fs ks off=true→bw ks xr=true→(∀j v,xr[j]? =some v→xs[off+j]? =some v)→
  ∀w,(forIn fs PUnit.unit fun f _=>(if f.name≠ "_" then do
    let x←Go.part f.type xs f.offset
    Instr.checkKey b (d+1) f.type x
    pure (ForInStep.yield PUnit.unit)
   else pure (ForInStep.yield PUnit.unit)):Sem PUnit).run P w= .ok PUnit.unit w
 |[],[],off,[],_,_,_,w=>by simp
 |f::fs,k::ks,off,a::xr,h,hx,gx,w=>by
  simp only[Qp,Bool.and_eq_true,bne_iff_ne,ne_eq]at h
  obtain⟨h1,h2,h3,h4⟩:=h
  have h2:=dy h2
  have p1: ∀w,(Go.part f.type xs f.offset).run P w= .ok a w:=fun w=>run_part_plain w (pV h3) (by rw[h2];exact gx 0 a rfl)
  have ih:=BA (b:=b) d xs fs ks (off+1) xr h4 (pk hx) (fun j v hj=>by have:=gx (j+1) v (by simpa using hj);rwa [show off+1+j=off+(j+1)by omega]) w
  have KW: ∀w,(Instr.checkKey b (d+1) f.type a).run P w= .ok () w:=fun w=>by
   unfold vc at h3
   split at h3
   ·rename_i q q' hu
    cases a<;>simp[bw]at hx
    simp[Instr.checkKey,Sem.run_bind,run_underlying hu,Result.andThen]
   ·rename_i hu
    cases a<;>simp[bw]at hx
    simp[Instr.checkKey,Sem.run_bind,run_underlying hu,Result.andThen]
   ·rename_i hu
    cases a<;>simp[bw]at hx
    simp[Instr.checkKey,Sem.run_bind,run_underlying hu,Result.andThen]
   ·cases h3
  simp only[List.forIn_cons,Sem.run_bind,h1,ne_eq,not_false_eq_true,if_true,p1,Result.andThen,KW,Sem.run_pure]
  exact ih
 |[],_::_,_,_,h,_,_,_=>by simp[Qp]at h
 |_::_,[],_,_,h,_,_,_=>by simp[Qp]at h
 |_::_,k::_,_,[],_,hx,_,_=>by cases k<;>simp[bw]at hx
 |[],[],_,_::_,_,hx,_,_=>by simp[bw]at hx
theorem Lm{t:Nat}{ks:List VK}(hlen:2≤ks.length)(ht:P.underlying t=some (.struct (P.fieldsOf t)))(hp:P.stoodInHeld t=false)(hf:Qp P (P.fieldsOf t).toList ks 0=true)(hg:P.eqGuardType P.depth t=false):KeyLaw P t ks:=by
 have nj: ∀kv,bw ks kv=true→fD kv= .agg kv.toArray:=fun kv h=>by
  have:=iw h
  match kv,this with
  |[],h=>simp at h;omega
  |[x],h=>simp at h;omega
  |x::y::r,_=>rfl
 have heq:=(CW ht hp hf hg).eq
 refine⟨fun kv h b w=>?_,fun kv es h DY w=>?_,fun kv h=>C8 h⟩
 ·rw[nj kv h]
  have:=BA (P:=P) (b:=b) 9998 kv.toArray _ ks 0 kv hf h (fun j v hj=>by simpa using hj) w
  show(Instr.checkKey b (9999+1) t (.agg kv.toArray)).run P w=_
  rw[Instr.checkKey]
  simp only[Sem.run_bind,run_underlying ht,Result.andThen]
  rw[←Array.forIn_toList]
  split
  ·rename_i h;cases this.symm.trans h;rfl
  ·rename_i h;cases this.symm.trans h
 ·rw[nj kv h]
  have apw: ∀(es:List MapEntry) (i:Nat),(∀e∈es,∃zR,bw ks zR=true∧e.key=fD zR)→(Instr.findAsking t (.agg kv.toArray) es i).run P w= .ok (jY (.agg kv.toArray) es i) w:=by
   intro es
   induction es with
   |nil=>intro i _;simp[Instr.findAsking,jY]
   |cons e r ih=>
    intro i DY
    obtain⟨zR,h1,h2⟩:=DY e (by simp)
    rw[nj zR h1]at h2
    obtain⟨b,yn,B4⟩:=heq kv zR h h1
    have zS:=ih (i+1) fun e he=>DY e (by simp[he])
    unfold jY
    have ajy:(e.key=Value.agg kv.toArray)↔b=true:=by
     rw[h2,yn]
     constructor
     ·intro e;injection e with e;exact(List.toArray_inj e).symm
     ·intro e;rw[e]
    cases b with
    |true=>rw[if_pos (ajy.2 rfl)];simp[Instr.findAsking,h2,Op.equal,Op.maxDepth,B4,Sem.run_bind,Result.andThen]
    |false=>rw[if_neg (fun e=>by have:=ajy.1 e;cases this)];simp[Instr.findAsking,h2,Op.equal,Op.maxDepth,B4,Sem.run_bind,Result.andThen,zS]
  cases es with
  |nil=>simp[Instr.findKey,Sem.run_bind,run_underlying ht,Result.andThen,Instr.findNow,jY]
  |cons e r=>
   obtain⟨zR,h1,h2⟩:=DY e (by simp)
   have aez:Instr.findNow (.struct (P.fieldsOf t)) (.agg kv.toArray) (e::r) 0=none:=by simp[Instr.findNow,Instr.sameNow]
   simp only[Instr.findKey,Sem.run_bind,run_underlying ht,Result.andThen,aez]
   exact apw (e::r) 0 DY
end
def kD(t:Nat):Option (List VK):=bif du t 3 then some [.int .i64]else bif du t 87 then some [.int .i64,.str,.int .i64]else none
def rC(t:Nat):Option (List VK):=bif du t 87 then some [.int .i64,.str,.int .i64]else bif du t 122 then some (List.replicate 6 (.int .i64))else bif du t 110 then some (List.replicate 12 (.int .i64))else none
theorem N7:PP.eqGuardType PP.depth 87=false:=by kernel_rfl
theorem Nq:PP.underlying 87=some (.struct (PP.fieldsOf 87)):=by kernel_rfl
theorem Nu:PP.stoodInHeld 87=false:=by kernel_rfl
theorem T0:Qp PP (PP.fieldsOf 87).toList [.int .i64,.str,.int .i64] 0=true:=by kernel_rfl
theorem HS: ∀t ks,kD t=some ks→KeyLaw PP t ks:=fun t ks h=>by
 unfold kD at h
 cases h1:du t 3 with
 |true=>
  rw[h1,cond_true]at h;cases h
  rw[dy h1]
  exact Xu (by kernel_rfl)
 |false=>
  rw[h1,cond_false]at h
  cases h2:du t 87 with
  |true=>
   rw[h2,cond_true]at h;cases h
   rw[dy h2]
   exact Lm (by simp) Nq Nu T0 N7
  |false=>rw[h2,cond_false]at h;cases h
theorem Oe: ∀t ks,rC t=some ks→tW PP t ks:=fun t ks h=>by
 unfold rC at h
 cases h2:du t 87 with
 |true=>
  rw[h2,cond_true]at h;cases h
  rw[dy h2]
  exact CW Nq Nu T0 N7
 |false=>
  rw[h2,cond_false]at h
  cases h3:du t 122 with
  |true=>
   rw[h3,cond_true]at h;cases h
   rw[dy h3]
   obtain⟨i,hi⟩:=info_of_underlying (P:=PP) (t:=3) (d:= .int .i64) (by kernel_rfl)
   exact Gl (e:=3) (by kernel_rfl) hi (by kernel_rfl) (by kernel_rfl) (by kernel_rfl)
  |false=>
   rw[h3,cond_false]at h
   cases h4:du t 110 with
   |true=>
    rw[h4,cond_true]at h;cases h
    rw[dy h4]
    obtain⟨i,hi⟩:=info_of_underlying (P:=PP) (t:=3) (d:= .int .i64) (by kernel_rfl)
    exact Gl (e:=3) (by kernel_rfl) hi (by kernel_rfl) (by kernel_rfl) (by kernel_rfl)
   |false=>rw[h4,cond_false]at h;cases h
end Ab
namespace Ab
open Go
section
variable{α β R S:Type}
def iter(body:(S→Option R)→S→Option R):Nat→S→Option R
 |0,_=>none
 |n+1,s=>body (iter body n) s
def au(l:List α):Int:=l.length
def gI(l:List α)(i:Int):Option α:=if 0≤i then l[i.toNat]? else none
def gK(l:List α)(k:Nat):Option α:=l[k]?
def gN(m:Nat)(i:Int):Option Nat:=if 0≤i∧i<m then some i.toNat else none
def gB(b:ByteArray)(i:Int):Option Int:=if 0≤i then(b[i.toNat]?).map fun c=>(c.toNat:Int)else none
def aL(b:Nat)(l:List α)(x:α):Option (List α):=if(l.length+1)*b≤70368744177664∧l.length+1≤70368744177664 then some (l++[x])else none
def It(b:Nat)(l m:List α):Option (List α):=if(l.length+m.length)*b≤70368744177664∧l.length+m.length≤70368744177664 then some (l++m)else none
def xd(b:Nat)(n:Int)(x:α):Option (List α):=if 0≤n∧n≤9223372036854775807∧n*b≤140737488355328 then some (List.replicate n.toNat x)else none
def fU(l:List α)(k:Nat)(x:α):Option (List α):=if k<l.length then some (l.set k x)else none
def Ej(l:List α)(a b:Int):Option (List α):=if 0≤a∧a≤b∧b≤l.length then some ((l.take b.toNat).drop a.toNat)else none
def El(l:ByteArray)(a b:Int):Option ByteArray:=if 0≤a∧a≤b∧b≤l.size then some (l.extract a.toNat b.toNat)else none
def lB(b:ByteArray):Int:=b.size
def eu(n:Nat)(l:List α):Option Unit:=if n=l.length then some ()else none
def cL(g b:Bool)(x:Option α)(d:α):Option α:=bif g==b then x else some d
theorem bnd{o:Option α}{f:α→Option β}{v:β}(h:o.bind f=some v): ∃a,o=some a∧f a=some v:=by
 cases o with
 |none=>cases h
 |some a=>exact⟨a,rfl,h⟩
theorem ae{o:Option α}{f:α→Option β}{v:β}{G:Prop}(h:o.bind f=some v)(k: ∀a,o=some a→f a=some v→G):G:=by
 obtain⟨a,h1,h2⟩:=bnd h;exact k a h1 h2
theorem jU{α0 α1:Type}{o:Option (α0×α1)}{f:α0×α1→Option β}{v:β}{G:Prop}(h:o.bind f=some v)(k: ∀a0 a1,o=some (a0,a1)→f (a0,a1)=some v→G):G:=by
 obtain⟨⟨a0,a1⟩,h1,h2⟩:=bnd h;exact k a0 a1 h1 h2
theorem akE{α0 α1 α2:Type}{o:Option (α0×α1×α2)}{f:α0×α1×α2→Option β}{v:β}{G:Prop}(h:o.bind f=some v)(k: ∀a0 a1 a2,o=some (a0,a1,a2)→f (a0,a1,a2)=some v→G):G:=by
 obtain⟨⟨a0,a1,a2⟩,h1,h2⟩:=bnd h;exact k a0 a1 a2 h1 h2
theorem Ot{α0 α1 α2 α3 α4:Type}{o:Option (α0×α1×α2×α3×α4)}{f:α0×α1×α2×α3×α4→Option β}{v:β}{G:Prop}(h:o.bind f=some v)(k: ∀a0 a1 a2 a3 a4,o=some (a0,a1,a2,a3,a4)→f (a0,a1,a2,a3,a4)=some v→G):G:=by
 obtain⟨⟨a0,a1,a2,a3,a4⟩,h1,h2⟩:=bnd h;exact k a0 a1 a2 a3 a4 h1 h2
theorem NT{α0 α1 α2:Type}{a:α0×α1×α2}{f:α0×α1×α2→Option β}{v:β}{G:Prop}(h:(some a).bind f=some v)(k: ∀a0 a1 a2,a=(a0,a1,a2)→f (a0,a1,a2)=some v→G):G:=k a.1 a.2.1 a.2.2 rfl h
theorem letE{a:α}{f:α→Option β}{v:β}{G:Prop}(h:(some a).bind f=some v)(k: ∀x,a=x→f x=some v→G):G:=k a rfl h
theorem ax{g b:Bool}{x:Option α}{d a:α}(h:cL g b x d=some a)(hg:g=b):x=some a:=by
 subst hg
 unfold cL at h
 simpa using h
theorem Lp{W:St→(Ex→St→Prop)→Prop}{s:St}{Q:Ex→St→Prop}{body:(S→Option R)→S→Option R}{n:Nat}{zZ:S}{v:R}(h:iter body n zZ=some v)
  (vu:Option (List Fr))(vt:S→List (Nat×AV))(vb:S→List (Nat×Ob))(vg:S→Nat→Option Ob)(vn:S→Nat)(h0:wk s (p8 s vu (vt zZ) (vb zZ) (vg zZ) (vn zZ)))
  (hr: ∀(R:St→Prop) (m:Nat),(∀(st:S) (s':St),iter body m st=some v→wk s' (p8 s vu (vt st) (vb st) (vg st) (vn st))→R s')→ ∀st:S,body (iter body m) st=some v→
   W (p8 s vu (vt st) (vb st) (vg st) (vn st)) (U1 R Q)):px W n s Q:=by
 have key: ∀(n:Nat) (st:S),iter body n st=some v→jk W Q n (p8 s vu (vt st) (vb st) (vg st) (vn st)):=fun n=>by
  induction n with
  |zero=>intro st h;cases h
  |succ m ih=>intro st h;exact hr _ m (fun st' s' h1 h2=> .inr ⟨_,h2,ih st' h1⟩) st h
 exact .inr ⟨_,h0,key n zZ h⟩
theorem step_loop{W:St→(Ex→St→Prop)→Prop}{s:St}{Q:Ex→St→Prop}{body:(S→Option R)→S→Option R}{n:Nat}{zZ:S}{v:R}(h:iter body n zZ=some v)
  (vu:Option (List Fr))(vt:S→List (Nat×AV))(vb:S→List (Nat×Ob))(vg:S→Nat→Option Ob)(vn:S→Nat)(h0:wk s (p8 s vu (vt zZ) (vb zZ) (vg zZ) (vn zZ)))
  (hr: ∀(R:St→Prop) (m:Nat),(∀(st:S) (s':St),iter body m st=some v→wk s' (p8 s vu (vt st) (vb st) (vg st) (vn st))→R s')→ ∀st:S,body (iter body m) st=some v→
   W (p8 s vu (vt st) (vb st) (vg st) (vn st)) (U1 R Q)):Nj W s Q:=⟨n,Lp h vu vt vb vg vn h0 hr⟩
def akb:List Nat→List (Nat×Ob)→List (Nat×Ob)
 |[],b=>b
 |d::r,b=>akb r (del d b)
def p7(s:St)(vd:List Nat)(vu:Option (List Fr))(vt:List (Nat×AV))(vb:List (Nat×Ob))(vg:Nat→Option Ob)(vn:Nat):St:=
 {s with t:=QQ vt s.t,b:=QQ vb (akb vd s.b),g:=vg,nx:=vn,up:=match vu with|none=>s.up|some u=>u}
theorem Lq{W:St→(Ex→St→Prop)→Prop}{s:St}{Q:Ex→St→Prop}{body:(S→Option R)→S→Option R}{n:Nat}{zZ:S}{v:R}(h:iter body n zZ=some v)(vd:List Nat)
  (vu:Option (List Fr))(vt:S→List (Nat×AV))(vb:S→List (Nat×Ob))(vg:S→Nat→Option Ob)(vn:S→Nat)(h0:wk s (p7 s vd vu (vt zZ) (vb zZ) (vg zZ) (vn zZ)))
  (hr: ∀(R:St→Prop) (m:Nat),(∀(st:S) (s':St),iter body m st=some v→wk s' (p7 s vd vu (vt st) (vb st) (vg st) (vn st))→R s')→ ∀st:S,body (iter body m) st=some v→
   W (p7 s vd vu (vt st) (vb st) (vg st) (vn st)) (U1 R Q)):px W n s Q:=by
 have key: ∀(n:Nat) (st:S),iter body n st=some v→jk W Q n (p7 s vd vu (vt st) (vb st) (vg st) (vn st)):=fun n=>by
  induction n with
  |zero=>intro st h;cases h
  |succ m ih=>intro st h;exact hr _ m (fun st' s' h1 h2=> .inr ⟨_,h2,ih st' h1⟩) st h
 exact .inr ⟨_,h0,key n zZ h⟩
theorem Ln{W:St→(Ex→St→Prop)→Prop}{s:St}{Q:Ex→St→Prop}{N:Nat}(h: ∀R:St→Prop,(∀s',px W N s' Q→R s')→W s (U1 R Q)):px W (N+1) s Q:=
 .inl (h _ fun _ hs=>hs)
theorem iu{W:St→(Ex→St→Prop)→Prop}{s:St}{Q:Ex→St→Prop}(N:Nat)(h: ∀R:St→Prop,(∀s',px W N s' Q→R s')→W s (U1 R Q)):Nj W s Q:=⟨N+1,Ln h⟩
theorem Cr{x c:Bool}{A B:Option R}{v:R}{G1 G2:Prop}(h:(bif c then A else B)=some v)(hx:x=c)(h1:A=some v→G1)(h2:B=some v→G2):(x=true→G1)∧(x=false→G2):=by
 subst hx
 exact⟨fun e=>h1 (by subst e;exact h),fun e=>h2 (by subst e;exact h)⟩
variable{M:Md}{I:Pr}{enc:α→List AV}
theorem aH(hM:M= .an):M.map enc []=[]:=by subst hM;rfl
theorem NN(hM:M= .an):[]=M.map enc []:=by subst hM;rfl
theorem ak(hI:I=an)(hM:M= .an){l:List α}{z:Int}(hz:au l=z):Int.ofNat (I.fp (M.map enc l))=z:=by
 subst hI;subst hM;rw[←hz];simp[an,Md.an,au]
theorem al(hM:M= .an){l:List α}{n:Int}{x:α}(hx:gI l n=some x){k:Nat}(hk:(enc x).length=k):0≤n∧(M.map enc l)[n.toNat]? =some (enc x)∧(enc x).length=k:=by
 subst hM
 unfold gI at hx
 split at hx
 ·rename_i h0
  refine⟨h0,?_,hk⟩
  show(List.map enc l)[n.toNat]? =_
  rw[List.getElem?_map,hx];rfl
 ·cases hx
theorem bV(hI:I=an)(hM:M= .an){l:List α}{n:Int}{k:Nat}(hk:gN (M.ln l) n=some k):I.within n (M.ln l)∧I.nat n=k:=by
 subst hI;subst hM
 unfold gN at hk
 split at hk
 ·rename_i h
  exact⟨h,Option.some.inj hk⟩
 ·cases hk
theorem ba(hM:M= .an){l:List α}{k:Nat}{x:α}(hx:gK l k=some x):(M.map enc l)[k]? =some (enc x):=by
 subst hM
 show(List.map enc l)[k]? =_
 rw[List.getElem?_map]
 unfold gK at hx
 rw[hx];rfl
theorem M3{C:dK}(hI:C.I=an)(hM:M= .an){ti:TI}{l m l':List α}(hx:It ti.bytes l m=some l')(he: ∀y,(enc y).length=ti.size)(h1:mL 1 ti.size=true)(ho: ∀y,o8 (enc y)=true):
  UF C ti (M.map enc l) (M.map enc m) (M.map enc l'):=by
 subst hM
 unfold It at hx
 split at hx
 ·rename_i hr
  cases hx
  refine⟨⟨?_,h1,?_,fun c hc=>?_⟩,fun c hc=>?_,?_⟩
  ·rw[hI]
   show(_∧_)
   simp only[an,Md.an,List.length_map]
   exact hr
  ·simp only[Md.an]
   clear hr
   induction m with
   |nil=>rfl
   |cons y r ih=>simp only[List.map_cons,eb,ho,ih,Bool.and_true]
  ·simp only[Md.an,List.mem_map]at hc
   obtain⟨y,_,rfl⟩:=hc
   exact he y
  ·simp only[Md.an,List.mem_map]at hc
   obtain⟨y,_,rfl⟩:=hc
   exact he y
  ·rw[hI];simp[an,Md.an]
 ·cases hx
theorem SJ{b:Nat}{l l':List α}{x:α}(hx:aL b l x=some l'):It b l [x]=some l':=hx
theorem aw{C:dK}(hI:C.I=an)(hM:M= .an){ti:TI}{l l':List α}{x:α}(hx:aL ti.bytes l x=some l')(he: ∀y,(enc y).length=ti.size)(h1:mL 1 ti.size=true)(ho: ∀y,o8 (enc y)=true):
  UF C ti (M.map enc l) (M.map enc [x]) (M.map enc l'):=M3 hI hM (SJ hx) he h1 ho
theorem dF{C:dK}(hI:C.I=an)(hM:M= .an){ti:TI}{n:Int}{x:α}{l:List α}(hx:xd ti.bytes n x=some l)(h1:1≤ti.size)(he:ti.zero.map AV.v=enc x):
  aiu C ti n n (M.map enc l) (M.ln l):=by
 subst hM
 unfold xd at hx
 split at hx
 ·rename_i hr
  cases hx
  refine⟨h1,rfl,?_,?_,?_⟩
  ·rw[hI];exact hr
  ·rw[hI,he];simp[an,Md.an]
  ·simp[Md.an]
 ·cases hx
theorem cN(hI:I=an)(hM:M= .an){ti:TI}{l l':List α}{k off z:Nat}{x y:α}{cs:List AV}(hy:gK l k=some y)(hx:fU l k x=some l')(hz:off+ti.size≤z)(hi:ca cs=true)(he:bE (enc y) off cs=enc x):
  ahu I ti (M.map enc l) k off z z cs (M.map enc l'):=by
 subst hI;subst hM
 unfold fU at hx
 split at hx
 ·cases hx
  refine⟨enc y,rfl,?_,hz,hi,?_⟩
  ·show(List.map enc l)[k]? =_
   rw[List.getElem?_map]
   unfold gK at hy
   rw[hy];rfl
  ·rw[he]
   show(List.map enc l).set k (enc x)=_
   rw[←List.map_set];rfl
 ·cases hx
theorem vN(hI:I=an)(hM:M= .an){l l':List α}{a b:Int}{k:Nat}(hx:Ej l a b=some l')(he: ∀y,(enc y).length=k):
  (I.mS a b (I.fp (M.map enc l))∧ ∀cs∈M.map enc l,cs.length=k)∧I.Ei (M.map enc l) a b=M.map enc l':=by
 subst hI;subst hM
 unfold Ej at hx
 split at hx
 ·rename_i hr
  cases hx
  refine⟨⟨?_,fun c hc=>?_⟩,?_⟩
  ·show 0≤a∧a≤b∧b≤((List.map enc l).length:Int)
   rw[List.length_map];exact hr
  ·simp only[Md.an,List.mem_map]at hc
   obtain⟨y,_,rfl⟩:=hc
   exact he y
  ·simp[an,Md.an,List.map_take,List.map_drop]
 ·cases hx
theorem Y2(hI:I=an)(hM:M= .an){l l':List α}{a:Int}{k:Nat}(hx:Ej l a (au l)=some l')(he: ∀y,(enc y).length=k):
  (I.mS a (Int.ofNat (I.fp (M.map enc l))) (I.fp (M.map enc l))∧ ∀cs∈M.map enc l,cs.length=k)∧I.Ei (M.map enc l) a (Int.ofNat (I.fp (M.map enc l)))=M.map enc l':=by
 have:=vN (enc:=enc) hI hM hx he
 rw[←ak (enc:=enc) hI hM (rfl:au l=_)]at this
 exact this
theorem gA(hI:I=an){b:ByteArray}{z:Int}(hz:lB b=z):Int.ofNat (I.MW b)=z:=by
 subst hI;rw[←hz];rfl
theorem Il(hI:I=an){b b':ByteArray}{l h:Int}(hx:El b l h=some b'):I.mS l h (I.MW b)∧I.Ik b l h=b':=by
 subst hI
 unfold El at hx
 split at hx
 ·rename_i hr;cases hx;exact⟨hr,rfl⟩
 ·cases hx
theorem Ek(hI:I=an){b b':ByteArray}{l:Int}(hx:El b l (lB b)=some b'):I.mS l (Int.ofNat (I.MW b)) (I.MW b)∧I.Ik b l (Int.ofNat (I.MW b))=b':=by
 have:=Il hI hx
 rw[←gA hI (rfl:lB b=_)]at this
 exact this
theorem mF{b:ByteArray}{n z:Int}(hx:gB b n=some z):0≤n∧ ∃c:UInt8,b[n.toNat]? =some c∧(c.toNat:Int)=z:=by
 unfold gB at hx
 split at hx
 ·rename_i h0
  cases hc:b[n.toNat]? with
  |none=>rw[hc]at hx;cases hx
  |some c=>rw[hc]at hx;cases hx;exact⟨h0,c,rfl,rfl⟩
 ·cases hx
theorem Xh(hM:M= .an){l0 l:List α}{r:Nat}{u:Unit}(h:eu (M.ln l0) l=some u):AV.sl r ((M.map enc l).take (M.ln l0))=AV.sl r (M.map enc l):=by
 subst hM
 unfold eu at h
 split at h
 ·rename_i hl
  rw[hl]
  congr 1
  exact List.take_of_length_le (by simp[Md.an])
 ·cases h
theorem dL(a:AV):Nl a a:=by
 cases a with
 |v x=>
  cases x with
  |slice A n c=>
   cases A with
   |none=>cases n with
    |zero=>cases c<;>rfl
    |succ n=>rfl
   |some A=>rfl
  |_=>rfl
 |any=>trivial
 |_=>rfl
theorem ah: ∀cs:List AV,Zt cs cs
 |[]=>trivial
 |a::r=>⟨dL a,ah r⟩
 mutual
theorem aA: ∀a:AV,Iz a a
  | .agg cs=>by unfold Iz;exact ah cs
  | .gd cs=>by unfold Iz;exact Fy cs
  | .any=>dL .any
  | .v x=>dL (.v x)
  | .sl r xs=>dL (.sl r xs)
  | .gs r t xs=>dL (.gs r t xs)
  | .aP r cs o=>dL (.aP r cs o)
  | .ptr k o=>dL (.ptr k o)
  | .iq k n=>dL (.iq k n)
  | .cQ k i o z=>dL (.cQ k i o z)
  | .mp i=>dL (.mp i)
  | .po k=>dL (.po k)
  | .ar n z xs=>dL (.ar n z xs)
  | .fn f cs=>dL (.fn f cs)
  | .bm f cs=>dL (.bm f cs)
  | .mN r z xs=>dL (.mN r z xs)
theorem Fy: ∀a:List AV,Ld a a
  |[]=>trivial
  |a::r=>⟨aA a,Fy r⟩
end
theorem bJ(hM:M= .an){x:α}{c:List AV}(h:Zt c (enc x))(hi:ca (enc x)=true):MX [c] (M.map enc [x]):=
 ⟨[enc x],⟨⟨h,hi⟩,trivial⟩,by subst hM;rfl⟩
theorem bl0(hM:M= .an):MX [] (M.map enc []):=⟨[],trivial,by subst hM;rfl⟩
theorem gR(hM:M= .an){l:List α}{cs:List (List AV)}(h:wkL cs (l.map enc)):MX cs (M.map enc l):=⟨_,h,by subst hM;rfl⟩
end
theorem AI{L:nv}(hL:bk PP L)(hm:PP.follows .mixedOrders=true){f:Nat}{fn:Func}{c:Code}(hf:PP.funcs[f]? =some fn)(hb:fn.body=some c){args:List AV}{g:Nat→Option Ob}{nx:Nat}{r:AV}{g':Nat→Option Ob}{gS:Nat}(hr:cq r=true)
  (ρ:Nat)(sh:List Nat)(tree:Nat→Tree)(dead:Nat→List Nat)(op:List Nat)(cl:Nat→Bool){T:Nat→Option FI}(hT:bh PP cl T)(iK: ∀k,cl k=true→uc T k=false)(fuel:Nat)(hd:cm cl tree c=true)(n:Nat)(hn:fn.ntmps=n)(ID:mL args.length n=true){rs:List ResultVar}(Tx:fn.results.toList=rs){I:Pr}(hI:I=an)
  (hk: ∀call:ot,Any PP call→pt (mK {I:=I,L:=L,ρ:=ρ,sh:=sh,tree:=tree,call:=call,op:=op,dead:=dead,cl:=cl,keys:=kD,eqs:=rC} T fuel 0) c (init n args g nx) (post (mK {I:=I,L:=L,ρ:=ρ,sh:=sh,tree:=tree,call:=call,op:=op,dead:=dead,cl:=cl,keys:=kD,eqs:=rC} T fuel 0) rs fun r1 g1 yT=>Iz r1 r∧g1=g'∧yT=gS)):j5 PP f args g nx r g' gS:=
 (Ur hL hm hf hb ρ sh tree dead op cl HS Oe hT iK fuel hd n hn ID Tx fun J call hJ hc _=>by rw[hJ,←hI];exact hk call hc).ako hr
theorem aT{W:St→(St→Prop)→Prop}{s:St}{Q:St→Prop}(vu:Option (List Fr))(vt:List (Nat×AV))(vb:List (Nat×Ob))(vg:Nat→Option Ob)(vn:Nat)
  (h1:W s (fun s1=>s1=p8 s vu vt vb vg vn∨wk s1.clean (p8 s vu vt vb vg vn)))(h2:Q (p8 s vu vt vb vg vn).clean):Zu W s Q:=⟨_,h1,_,rfl,h2⟩
def tM(k:Nat)(fi:FI)(T:Nat→Option FI):Nat→Option FI:=fun j=>bif du k j then some fi else T j
theorem bh.cons{P:Program}{cl:Nat→Bool}{k:Nat}{fi:FI}{T:Nat→Option FI}(h:kV P cl k fi)(hT:bh P cl T):bh P cl (tM k fi T):=fun j fj hj=>by
 unfold tM at hj
 by_cases hk:k=j
 ·subst hk
  rw[fc,cond_true]at hj
  cases hj;exact h
 ·rw[xJ hk,cond_false]at hj
  exact hT j fj hj
theorem cl0(cl:Nat→Bool): ∀k,cl k=true→uc (fun _=>none) k=false:=fun _ _=>rfl
theorem Ip{cl:Nat→Bool}{k:Nat}{fi:FI}{T:Nat→Option FI}(h:cl k=false)(hT: ∀k,cl k=true→uc T k=false): ∀j,cl j=true→uc (tM k fi T) j=false:=fun j hj=>by
 have h2:=hT j hj
 unfold uc tM at*
 by_cases hk:k=j
 ·subst hk;rw[h]at hj;cases hj
 ·rw[xJ hk,cond_false];exact h2
theorem lK{I:Pr}(hI:I=an){A B:Prop}(h:B):(I.not true=true→A)∧(I.not true=false→B):=by subst hI;exact⟨fun h=>(by cases h),fun _=>h⟩
section
variable{α:Type}{M:Md}{I:Pr}{enc:α→List AV}
def mU(n:Nat)(l:List α):Option Unit:=if l.length=n then some ()else none
theorem aR(hI:I=an)(hM:M= .an){n:Nat}{l:List α}{u:Unit}(h:mU n l=some u):I.fp (M.map enc l)=n:=by
 subst hI;subst hM
 unfold mU at h
 split at h
 ·rename_i hl;show(List.map enc l).length=n;rw[List.length_map];exact hl
 ·cases h
theorem iz(hI:I=an)(hM:M= .an){n:Nat}{x:α}{l:List α}{cs:List AV}(hl:List.replicate n x=l)(h:cs=enc x):I.rep n cs=M.map enc l:=by
 subst hI;subst hM;subst h;subst hl;simp[an,Md.an]
theorem dI(hM:M= .an)(h: ∀y,o8 (enc y)=true)(l:List α):eb (M.map enc l)=true:=by
 subst hM
 show eb (List.map enc l)=true
 induction l with
 |nil=>rfl
 |cons y r ih=>simp only[List.map_cons,eb,h,ih,Bool.and_true]
theorem aK(hI:I=an){m:Nat}{n:Int}{k:Nat}(hk:gN m n=some k):I.within n m∧I.nat n=k:=by
 subst hI
 unfold gN at hk
 split at hk
 ·rename_i h
  exact⟨h,Option.some.inj hk⟩
 ·cases hk
end
section
variable{κ β:Type}[DecidableEq κ]{M:Md}{I:Pr}
def Ef(f:κ→List AV)(g:β→List AV)(x:κ×β):List AV:=f x.1++g x.2
def F4(l:List (κ×β))(k:κ)(d:β):β:=((l.find? fun e=>decide (e.1=k)).map (·.2)).getD d
def FZ(l:List (κ×β))(k:κ)(v:β):Option (List (κ×β)):=if(l.find? fun e=>decide (e.1=k)).isSome then none else some (l++[(k,v)])
def X3(l:List (κ×List β))(k:κ):List (κ×List β)×Nat×List β:=match l.findIdx? fun e=>decide (e.1=k)with
 |some i=>(l,i,((l[i]?).map (·.2)).getD [])
 |none=>(l++[(k,[])],l.length,[])
def WC(l:List (κ×β))(i:Nat)(v:β):Option (List (κ×β)):=(l[i]?).map fun e=>l.set i (e.1,v)
variable{f:κ→List AV}{g:β→List AV}
theorem HQ{k:κ}{n:Nat}(hn: ∀a,(f a).length=n)(x:κ×β):(Ef f g x).take (f k).length=f x.1:=have _:=(inferInstance:DecidableEq κ);by
 unfold Ef
 rw[hn k,←hn x.1,List.take_left]
theorem xK{n:Nat}(hn: ∀a,(f a).length=n)(sk: ∀a b,f a=f b→a=b){l:List (κ×β)}{k:κ}(h:(l.find? fun e=>decide (e.1=k))=none):xm (l.map (Ef f g)) (f k) none:=by
 intro row mh
 obtain⟨x,hx,rfl⟩:=List.mem_map.1 mh
 rw[HQ hn]
 intro e
 have:=List.find?_eq_none.1 h x hx
 simp[sk _ _ e]at this
theorem DL{n:Nat}(hn: ∀a,(f a).length=n)(sk: ∀a b,f a=f b→a=b){l:List (κ×β)}{k:κ}{i:Nat}(h:(l.findIdx? fun e=>decide (e.1=k))=some i): ∃x,l[i]? =some x∧x.1=k∧(l.find? fun e=>decide (e.1=k))=some x∧xm (l.map (Ef f g)) (f k) (some i):=by
 obtain⟨aS,h1,h2⟩:=List.findIdx?_eq_some_iff_getElem.1 h
 have hk:l[i].1=k:=by simpa using h1
 refine⟨l[i],by simp[aS],hk,?_,Ef f g l[i],by simp[aS],by rw[HQ hn,hk],fun j OW hj hr=>?_⟩
 ·rw[List.find?_eq_some_iff_getElem]
  exact⟨h1,i,aS,rfl,fun j hj=>by have:=h2 j hj;simpa using this⟩
 ·rw[List.getElem?_map]at hr
  have hjl:j<l.length:=by omega
  rw[List.getElem?_eq_getElem hjl]at hr
  cases hr
  rw[HQ hn]
  intro e
  have:=h2 j hj
  simp[sk _ _ e]at this
theorem D6{l:List (κ×β)}{k:κ}:(l.findIdx? fun e=>decide (e.1=k))=none↔(l.find? fun e=>decide (e.1=k))=none:=by
 rw[List.findIdx?_eq_none_iff,List.find?_eq_none]
 constructor
 ·intro h x hx;simp[h x hx]
 ·intro h x hx;simpa using h x hx
theorem Tc(hM:M= .an){n:Nat}(hn: ∀a,(f a).length=n)(sk: ∀a b,f a=f b→a=b){av:β→AV}(hg: ∀y,g y=[av y]){l:List (κ×β)}{k:κ}{d x:β}{z:Value}(hx:F4 l k d=x){kc:List AV}(hk:kc=f k)(hz:Nl (.v z) (av d)):aix (M.map (Ef f g) l) kc (.v z) (av x):=by
 subst hM;subst hk
 unfold F4 at hx
 cases hi:l.findIdx? fun e=>decide (e.1=k)with
 |none=>
  rw[D6.1 hi]at hx
  simp at hx
  subst hx
  exact .inr ⟨xK hn sk (D6.1 hi),hz⟩
 |some i=>
  obtain⟨y,h1,h2,h3,h4⟩:=DL (g:=g) hn sk hi
  rw[h3]at hx
  simp at hx
  subst hx
  refine .inl ⟨i,Ef f g y,av y.2,h4,by show(l.map _)[i]? =_;rw[List.getElem?_map,h1];rfl,?_,dL _⟩
  unfold Ef
  rw[hn k,←hn y.1,List.getElem?_append_right (Nat.le_refl _),Nat.sub_self,hg]
  rfl
theorem NQ(hI:I=an)(hM:M= .an){n:Nat}(hn: ∀a,(f a).length=n)(sk: ∀a b,f a=f b→a=b){l l':List (κ×β)}{k:κ}{v:β}(hx:FZ l k v=some l'){kc:List AV}{va:AV}(hk:kc=f k)(hv:g v=[va]):xm (M.map (Ef f g) l) kc none∧I.app (M.map (Ef f g) l) [kc++[va]]=M.map (Ef f g) l':=by
 subst hM;subst hI;subst hk
 unfold FZ at hx
 split at hx
 ·cases hx
 ·rename_i h
  cases hx
  refine⟨xK hn sk (Option.not_isSome_iff_eq_none.1 h),?_⟩
  show _++_=List.map _ _
  rw[List.map_append,←hv]
  rfl
theorem Oh{C:dK}(hI:C.I=an)(hM:M= .an){n:Nat}(hn: ∀a,(f a).length=n)(sk: ∀a b,f a=f b→a=b){γ:Type}{en:γ→List AV}{l l':List (κ×List γ)}{k:κ}{i:Nat}{ys:List γ}(hx:X3 l k=(l',i,ys)){kc:List AV}(hk:kc=f k){r0:Nat}:
  aj6 C r0 (M.map (Ef f fun y=>[AV.sl r0 (M.map en y)]) l) kc (M.map (Ef f fun y=>[AV.sl r0 (M.map en y)]) l') i r0 (M.map en ys):=by
 subst hM;subst hk
 unfold X3 at hx
 cases hi:l.findIdx? fun e=>decide (e.1=k)with
 |some j=>
  rw[hi]at hx
  dsimp only at hx
  injection hx with e1 e2
  injection e2 with e2 e3
  subst e1;subst e2
  obtain⟨y,h1,h2,h3,h4⟩:=DL (g:=fun y=>[AV.sl r0 (Md.an.map en y)]) hn sk hi
  rw[h1]at e3
  simp at e3
  subst e3
  refine .inl ⟨h4,rfl,Ef f (fun y=>[AV.sl r0 (Md.an.map en y)]) y,by show(l.map _)[j]? =_;rw[List.getElem?_map,h1];rfl,?_⟩
  unfold Ef
  rw[hn k,←hn y.1,List.getElem?_append_right (Nat.le_refl _),Nat.sub_self]
  rfl
 |none=>
  rw[hi]at hx
  dsimp only at hx
  injection hx with e1 e2
  injection e2 with e2 e3
  subst e1;subst e2;subst e3
  refine .inr ⟨xK hn sk (D6.1 hi),?_,?_,rfl,rfl⟩
  ·rw[hI];show _++_=List.map _ _;rw[List.map_append];rfl
  ·rw[hI];show(List.map _ _).length=_;rw[List.length_map]
theorem Oi{C:dK}(hI:C.I=an)(hM:M= .an){kz:Nat}(hn: ∀a,(f a).length=kz){γ:Type}{en:γ→List AV}{l l':List (κ×List γ)}{i:Nat}{ys:List γ}{r0:Nat}{z:Int}(hx:WC l i ys=some l'):
  aj8 C kz (M.map (Ef f fun y=>[AV.sl r0 (M.map en y)]) l) i i z z r0 (M.map en ys) (M.map (Ef f fun y=>[AV.sl r0 (M.map en y)]) l'):=have _:=(inferInstance:DecidableEq κ);by
 subst hM
 unfold WC at hx
 cases hl:l[i]? with
 |none=>rw[hl]at hx;cases hx
 |some e=>
  rw[hl]at hx
  cases hx
  refine⟨rfl,rfl,Ef f (fun y=>[AV.sl r0 (Md.an.map en y)]) e,by show(l.map _)[i]? =_;rw[List.getElem?_map,hl];rfl,?_⟩
  rw[hI]
  show(l.map _).set i _=(l.set i _).map _
  rw[List.map_set]
  congr 1
  unfold Ef bE
  rw[←hn e.1,List.take_left]
  simp
theorem Uf{x y:κ}{b:Bool}(hb:decide (x=y)=b){C:dK}{t:Nat}{ks:List VK}(hk:C.eqs t=some ks)(sk: ∀a b,f a=f b→a=b)(hf: ∀a,mR ks (f a)=true){cx cy:List AV}(hx:cx=f x)(hy:cy=f y):qL C t (.agg cx)∧qL C t (.agg cy)∧ae5 (.agg cx) (.agg cy) b:=by
 subst hx;subst hy;subst hb
 refine⟨?_,?_,f x,f y,rfl,rfl,?_⟩
 ·unfold qL;rw[hk];exact hf x
 ·unfold qL;rw[hk];exact hf y
 ·rw[decide_eq_true_eq];exact⟨fun e=>by rw[e],sk x y⟩
theorem AD: ∀{n:Nat} {l:List Int},l.length=n→mR (List.replicate n (.int .i64)) (l.map ao).flatten=true
 |0,[],_=>rfl
 |n+1,a::r,h=>by
  rw[List.replicate_succ]
  show(IntKind.i64==IntKind.i64&&mR _ (r.map ao).flatten)=true
  rw[AD (by simpa using h)];rfl
theorem J2: ∀{l m:List Int},(l.map ao).flatten=(m.map ao).flatten→l=m
 |[],[],_=>rfl
 |a::r,b::q,h=>by
  have:AV.v (.int .i64 a)::(r.map ao).flatten=AV.v (.int .i64 b)::(q.map ao).flatten:=h
  injection this with h1 h2
  injection h1 with h1
  injection h1 with _ h1
  rw[h1,J2 h2]
 |[],b::q,h=>by simp[ao]at h
 |a::r,[],h=>by simp[ao]at h
theorem Ue(hM:M= .an){n:Nat}{l k:List Int}{b:Bool}{u w:Unit}(hl:mU n l=some u)(jS:mU n k=some w)(hb:decide (l=k)=b){C:dK}{t:Nat}(hk:C.eqs t=some (List.replicate n (.int .i64))):qL C t (.ar n 1 (M.map ao l))∧qL C t (.ar n 1 (M.map ao k))∧ae5 (.ar n 1 (M.map ao l)) (.ar n 1 (M.map ao k)) b:=by
 subst hM;subst hb
 have h1:l.length=n:=by unfold mU at hl;split at hl;assumption;cases hl
 have h2:k.length=n:=by unfold mU at jS;split at jS;assumption;cases jS
 refine⟨?_,?_,_,_,rfl,rfl,?_⟩
 ·unfold qL;rw[hk];exact AD h1
 ·unfold qL;rw[hk];exact AD h2
 ·rw[decide_eq_true_eq];exact⟨fun e=>by rw[e],J2⟩
end
theorem Eg(a b:Int)(h:ao a=ao b):a=b:=by
 injection h with h _
 injection h with h
 injection h
section
variable{α:Type}{M:Md}{I:Pr}{enc:α→List AV}
theorem qQ{C:dK}(hI:C.I=an)(hM:M= .an){l l':List α}{k off r:Nat}{x y:α}{ys:List (List AV)}(hy:gK l k=some y)(hx:fU l k x=some l')(ho:off<(enc y).length)(he:bE (enc y) off [.sl r ys]=enc x):akG C (M.map enc l) k k off off r ys (M.map enc l'):=by
 subst hM
 unfold fU at hx
 split at hx
 ·cases hx
  refine⟨rfl,rfl,enc y,?_,ho,?_⟩
  ·show(List.map enc l)[k]? =_
   rw[List.getElem?_map];unfold gK at hy;rw[hy];rfl
  ·rw[hI,he];show(List.map enc l).set k (enc x)=_;rw[←List.map_set];rfl
 ·cases hx
end
section
variable{α:Type}{M:Md}{I:Pr}{enc:α→List AV}
def kH(n:Nat)(ys xs:List α):List α:=ys.take (min ys.length n)++xs.drop (min ys.length n)
def mT(n:Nat)(ys:List α):Int:=((min ys.length n:Nat):Int)
theorem gr(hI:I=an)(hM:M= .an){ti:TI}{z:Nat}{n:Nat}{xs ys l:List α}{j:Int}(hl:kH n ys xs=l)(hj:mT n ys=j)(hz:z=ti.size)(ho: ∀y,o8 (enc y)=true)(he: ∀y,(enc y).length=ti.size):
  akg I ti z n (M.map enc xs) (M.map enc ys) (M.map enc l) j:=by
 subst hI;subst hM;subst hl;subst hj
 refine⟨hz,dI rfl ho ys,fun c hc=>?_,?_,?_⟩
 ·obtain⟨y,_,rfl⟩:=List.mem_map.1 hc;exact he y
 ·simp only[an,Md.an,List.length_map,mT];split<;>omega
 ·simp only[an,Md.an,kH,mT,List.length_map]
  simp[List.map_take,List.map_drop]
  rw[List.take_of_length_le (l:=List.map enc xs) (by simp)]
theorem qP(hI:I=an)(hM:M= .an){z n:Nat}{cs:List AV}{l:List α}(h:chunks z n cs=l.map enc):I.chunk z n cs=M.map enc l:=by subst hI;subst hM;exact h
end
section
variable{α:Type}{M:Md}{I:Pr}{enc:α→List AV}
theorem Ou{c:List AV}(h:ca c=true):MX [c] [c]:=⟨[c],⟨⟨ah c,h⟩,trivial⟩,rfl⟩
theorem pM(hI:I=an){b:Nat}{x:α}{l:List α}(h:aL b [] x=some l):I.room 0 1 b:=by
 subst hI
 unfold aL at h
 split at h
 ·rename_i hr;simpa[an]using hr
 ·cases h
theorem xF(hI:I=an)(hM:M= .an){b:Nat}{x:α}{l:List α}{row:List AV}(h:aL b [] x=some l)(he:row=enc x):[row]=M.map enc l∧I.fp (M.map enc l)=M.ln l:=by
 subst hI;subst hM;subst he
 unfold aL at h
 split at h
 ·cases h;exact⟨rfl,rfl⟩
 ·cases h
theorem DB{C:dK}(hI:C.I=an)(hM:M= .an){b r:Nat}{x:α}{l l':List α}{row:List AV}(h:aL b l x=some l')(he:row=enc x):goO r (M.ln l) b (M.map enc l) row C (M.map enc l') (M.ln l'):=by
 subst hM;subst he
 unfold aL at h
 split at h
 ·rename_i hr
  cases h
  refine⟨?_,?_,?_,?_⟩
  ·rw[hI];exact hr
  ·rw[hI];simp[an,Md.an]
  ·rw[hI];simp[an,Md.an]
  ·rw[hI];simp[an,Md.an]
 ·cases h
end
section
variable{α:Type}{M:Md}{I:Pr}{enc:α→List AV}
theorem Iu(hM:M= .an){l:List α}{n:Int}{x:α}(hx:gI l n=some x):0≤n∧(M.map enc l)[n.toNat]? =some (enc x):=
 let⟨h1,h2,_⟩:=al (enc:=enc) hM hx rfl;⟨h1,h2⟩
def NX:List (List AV)→Bool
 |[]=>true
 |a::r=>ca a&&NX r
theorem IY: ∀{xs:List (List AV)},NX xs=true→wkL xs xs
 |[],_=>trivial
 |a::r,h=>by simp only[NX,Bool.and_eq_true]at h;exact⟨⟨ah a,h.1⟩,IY h.2⟩
theorem Zc{xs:List (List AV)}(h:NX xs=true):MX xs xs:=⟨xs,IY h,rfl⟩
def Db(z:Nat):List (List AV)→Bool
 |[]=>true
 |a::r=>du a.length z&&Db z r
theorem xy{z:Nat}: ∀{xs:List (List AV)},Db z xs=true→ ∀l∈xs,l.length=z
 |[],_,l,hl=>by simp at hl
 |a::r,h,l,hl=>by
  simp only[Db,Bool.and_eq_true]at h
  rcases List.mem_cons.1 hl with rfl|hl
  ·exact dy h.1
  ·exact xy h.2 l hl
def ZQ(ti:TI)(xs ys:List (List AV)):Bool:=(mL ((xs.length+ys.length)*ti.bytes) 70368744177664&&mL (xs.length+ys.length) 70368744177664)&&((mL 1 ti.size&&eb ys)&&(Db ti.size ys&&Db ti.size xs))
theorem apL{C:dK}(hI:C.I=an){ti:TI}{xs ys zs:List (List AV)}(h:ZQ ti xs ys=true)(hz:xs++ys=zs):UF C ti xs ys zs:=by
 simp only[ZQ,Bool.and_eq_true,xP]at h
 obtain⟨⟨h1,h2⟩,⟨h3,h4⟩,h5,h6⟩:=h
 refine⟨⟨?_,by rw[xP];exact h3,h4,xy h5⟩,xy h6,?_⟩
 ·rw[hI];exact⟨h1,h2⟩
 ·rw[hI];exact hz
theorem Tb(hI:I=an){xs:List (List AV)}{n:Nat}(h:xs.length=n):Int.ofNat (I.fp xs)=(n:Int):=by subst hI;subst h;rfl
theorem jv{x:Bool}{A B:Prop}(hx:x=true)(h:A):(x=true→A)∧(x=false→B):=⟨fun _=>h,fun e=>by rw[hx]at e;cases e⟩
theorem eS{x:Bool}{A B:Prop}(hx:x=false)(h:B):(x=true→A)∧(x=false→B):=⟨fun e=>(by rw[hx]at e;cases e),fun _=>h⟩
theorem nh(hI:I=an){a b:Int}(h:decide (a<b)=true):I.aU a b=true:=by subst hI;exact h
theorem iB(hI:I=an){a b:Int}(h:decide (a<b)=false):I.aU a b=false:=by subst hI;exact h
theorem adQ(hI:I=an){a b c:Int}(h:IntKind.wrap .i64 (a+b)=c):AV.v (.int .i64 (I.wrap .i64 (I.add a b)))=AV.v (.int .i64 c):=by subst hI;subst h;rfl
theorem Lo{W:St→(Ex→St→Prop)→Prop}{s:St}{Q:Ex→St→Prop}{N:Nat}(vd:List Nat)(vu:Option (List Fr))(vt:List (Nat×AV))(vb:List (Nat×Ob))(vg:Nat→Option Ob)(vn:Nat)(hk:wk s (p7 s vd vu vt vb vg vn))
  (h: ∀R:St→Prop,(∀s',px W N s' Q→R s')→W (p7 s vd vu vt vb vg vn) (U1 R Q)):px W (N+1) s Q:= .inr ⟨_,hk,h _ fun _ hs=>hs⟩
end
end Ab
namespace Ab
open Go
set_option maxHeartbeats 100000000
set_option maxRecDepth 100000
structure aI where
 kind:Int
 name:ByteArray
 num:Int
 args:List Int
 deriving DecidableEq
instance:Inhabited aI:=⟨⟨0,⟨#[]⟩,0,[]⟩⟩
structure ag where
 head:ByteArray
 kids:Int
 ops:List aI
 result:Int
 deriving DecidableEq
instance:Inhabited ag:=⟨⟨⟨#[]⟩,0,[],0⟩⟩
structure aj where
 name:ByteArray
 arity:Int
 af:List ag
 deriving DecidableEq
instance:Inhabited aj:=⟨⟨⟨#[]⟩,0,[]⟩⟩
structure ai where
 blocks:List aj
 deriving DecidableEq
instance:Inhabited ai:=⟨⟨[]⟩⟩
structure cj where
 kind:Int
 name:ByteArray
 num:Int
 deriving DecidableEq
instance:Inhabited cj:=⟨⟨0,⟨#[]⟩,0⟩⟩
def aW(M:Md)(r:Nat)(x:aI):List AV:=[(vi x.kind),(vs x.name),(vi x.num),(.sl r (M.map ao x.args))]
def az(M:Md)(r:Nat)(x:ag):List AV:=[(vs x.head),(vi x.kids),(.sl r (M.map (aW M r) x.ops)),(vi x.result)]
def aq(M:Md)(r:Nat)(x:aj):List AV:=[(vs x.name),(vi x.arity),(.sl r (M.map (az M r) x.af))]
def aX(M:Md)(r:Nat)(x:ai):List AV:=[(.sl r (M.map (aq M r) x.blocks))]
def bO(M:Md)(r:Nat)(x:cj):List AV:=[(vi x.kind),(vs x.name),(vi x.num)]
theorem dw(M:Md)(r:Nat)(a b:cj)(h:bO M r a=bO M r b):a=b:=by
 cases a;cases b
 simp only[bO,List.cons.injEq,vi,vs,vb,AV.v.injEq,Value.int.injEq,Value.string.injEq,Value.bool.injEq,true_and,and_true]at h
 simp[h]
end Ab
namespace Ab
open Go
variable{P:Program}{E E':Env}{w w':World}
def Cg(a:AV):Prop:= ∀r,1000000≤r→ri r a
def Env.oH(E:Env):Env:={E with dH:=fun b=>if E.dH b<1000000 then E.dH b else 0}
theorem Hh{q:Nat}(h: ∀r,1000000≤r→q≠r):q<1000000:=by
 rcases Nat.lt_or_ge q 1000000 with h1|h1
 ·exact h1
 ·exact absurd rfl (h q h1)
theorem Aa{E:Env}{b q:Nat}(h:E.dH b=q)(hq:q<1000000):E.oH.dH b=q:=by
 show(if E.dH b<1000000 then E.dH b else 0)=q
 rw[if_pos (by omega),h]
theorem Cz.oH{av:AV}{x:Value}(h:Cz E av x):Cg av→Cz E.oH av x:=by
 have sub: ∀{cs:List AV} {q:Nat} {a:AV},(∀r,1000000≤r→An r cs)→cs[q]? =some a→Cg a:=fun h hq r hr=>nC (h r hr) _ _ hq
 have ab1: ∀{xs:List (List AV)} {q:Nat} {a:AV},(∀r,1000000≤r→mI r xs)→xs.flatten[q]? =some a→Cg a:=fun h hq r hr=>kA (h r hr) _ _ hq
 induction h with
 |any x=>exact fun _=> .any _
 |v x=>exact fun _=> .v _
 |mZ q A c=>exact fun _=> .mZ _ _ _
 |sl q xs z b o c u hp hc hm dQ hz hr hi hs hu hq ih=>
  intro hn
  simp only[Cg,ri]at hn
  exact .sl q xs z b o c u hp hc hm dQ hz (Aa hr (Hh fun r h=>(hn r h).1)) hi hs hu fun i a ha=>ih i a ha (ab1 (fun r h=>(hn r h).2) ha)
 |sq q t=>exact fun _=> .sq _ _
 |gs q t xs z b c e cells u hc hm h0 dQ hz hr hb dC ho fP hi hu hq ih=>
  intro hn
  simp only[Cg,ri]at hn
  exact .gs q t xs z b c e cells u hc hm h0 dQ hz (Aa hr (Hh fun r h=>(hn r h).1)) hb dC ho fP hi hu fun i a ha=>ih i a ha (ab1 (fun r h=>(hn r h).2) ha)
 |aP q cs off b o u hr hi hs hu hq ih=>
  intro hn
  simp only[Cg,ri]at hn
  exact .aP q cs off b o u (fun i a ha=>Aa (hr i a ha) (Hh fun r h=>(hn r h).1)) hi hs hu fun i a ha=>ih i a ha (sub (fun r h=>(hn r h).2) ha)
 |ptr k' off hl=>exact fun _=>Cz.ptr (E:=E.oH) k' off hl
 |iq k' n hl hn hc hm=>exact fun _=>Cz.iq (E:=E.oH) k' n hl hn hc hm
 |cQ k' i off z hl=>exact fun _=>Cz.cQ (E:=E.oH) k' i off z hl
 |mp k' hl=>exact fun _=>Cz.mp (E:=E.oH) k' hl
 |po k' hl=>exact fun _=>Cz.po (E:=E.oH) k' hl
 |ar n z xs ys hn hz hl hi hq ih=>intro h;simp only[Cg,ri]at h;exact .ar n z xs ys hn hz hl hi fun q a y ha hy=>ih q a y ha hy (ab1 h ha)
 |fn f cs ys hl hq ih=>intro h;simp only[Cg,ri]at h;exact .fn f cs ys hl fun q a y ha hy=>ih q a y ha hy (sub h ha)
 |bm f cs ys hl hi hq ih=>intro h;simp only[Cg,ri]at h;exact .bm f cs ys hl hi fun q a y ha hy=>ih q a y ha hy (sub h ha)
 |mN q z xs x hz h ih=>
  intro hn
  simp only[Cg,ri]at hn
  refine .mN q z xs x hz (ih fun r hr=>?_)
  simp only[ri]
  exact⟨(hn r hr).1,Mh fun a ha=>by obtain⟨i,hi⟩:=List.getElem?_of_mem ha;exact kA (hn r hr).2 i a hi⟩
 |agg cs ys hl hq ih=>intro h;simp only[Cg,ri]at h;exact .agg cs ys hl fun q a y ha hy=>ih q a y ha hy (sub h ha)
 |gd cs ys hl hq ih=>intro h;simp only[Cg,ri]at h;exact .gd cs ys hl fun q a y ha hy=>ih q a y ha hy (sub h ha)
def aaw(args:List AV):Prop:= ∀r,1000000≤r→An r args
theorem DF{g:Nat→Option Ob}{nx:Nat}(hG:vT E w g nx): ∀i,g i=none:=fun i=>by
 cases h:g i with
 |none=>rfl
 |some ob=>
  exfalso
  have h1:=hG.gx i ob h
  have key:E.own (E.m (.o i))= .key (.o i):=by
   cases ob with
   |box cs=>exact h1.2.choose_spec.choose_spec.2.1
   |arr z xs=>obtain⟨_,_,_,_,_,c,e,_,h2,_⟩:=h1;exact h2
   |ow p l xs=>exact h1.2.1
   |lp n t ps nq body st=>exact h1.2.1
  have:=hG.ng (E.m (.o i))
  rw[key]at this
  exact this rfl
theorem tI.lift{f:Nat}{args:List AV}{v:Value}(h: ∀(g:Nat→Option Ob),(∀i,g i=none)→ ∀nx,tI P true f args g nx fun r1 g1 yT=>Iz r1 (.v v)∧g1=g∧yT=nx)(aeE:aaw args)(g:Nat→Option Ob)(nx:Nat):
  j5 P f args g nx (.v v) g nx:=by
 intro hi E w vs hG hl hv
 have hg:=DF hG
 have hG1:vT E.oH w g nx:=⟨hG.heap,⟨hG.wf.aM,hG.wf.own,fun b o _ hr=>by
  exfalso
  have hr:1000000≤(if E.dH b<1000000 then E.dH b else 0):=hr
  split at hr<;>omega⟩,hG.nl,hG.gl,hG.own,hG.gk,fun i ob hh=>(by rw[hg i]at hh;cases hh),hG.ng⟩
 refine(h g hg nx hi E.oH w vs hG1 (fun _ b o _=>by show(if E.dH b<1000000 then E.dH b else 0)<1000000;split<;>omega) hl fun q a y ha hy=>(hv q a y ha hy).oH fun r hr=>nC (aeE r hr) q a ha).mono ?_
 rintro e w' ⟨r,g',gS,x,E1,⟨e1,e2,e3⟩,e4,IF,hE,hS,hc,hir,Ki⟩
 subst e2;subst e3
 have hx:Cz E1 (.v v) x:=vZ e1 hc
 have hx:=bH hx
 subst hx
 refine⟨x,{E1 with dH:=fun b=>if b<E.h.size then E.dH b else E1.dH b},e4,⟨IF.heap,⟨IF.wf.aM,IF.wf.own,fun b o hs hr=>?_⟩,IF.nl,IF.gl,IF.own,IF.gk,fun i ob hh=>(by rw[hg i]at hh;cases hh),IF.ng⟩,⟨hE.size,fun b o hs=>⟨(hE.aM b o hs).1,(hE.aM b o hs).2.1,by show(if b<E.h.size then E.dH b else E1.dH b)=E.dH b;rw[if_pos (hG.wf.aM b o hs)]⟩,hE.live,fun b hb hn=>?_⟩,hS,.v _,rfl,Ki⟩
 ·have hr:1000000≤(if b<E.h.size then E.dH b else E1.dH b):=hr
  by_cases hb:b<E.h.size
  ·rw[if_pos hb]at hr
   have hk:=hE.bj b hb (hG.ng b)
   obtain⟨c,e,h1⟩:=hG.wf.fz b o ((hk.2.2.1 o).1 hs) hr
   exact⟨c,e,hk.2.1.trans h1⟩
  ·rw[if_neg hb]at hr;exact IF.wf.fz b o hs hr
 ·have hk:=hE.bj b hb hn
  exact⟨hk.1,hk.2.1,hk.2.2.1,by show(if b<E.h.size then E.dH b else E1.dH b)=E.dH b;rw[if_pos hb]⟩
theorem MQ{L:nv}(hL:bk PP L)(hm:PP.follows .mixedOrders=true){f:Nat}{fn:Func}{c:Code}(hf:PP.funcs[f]? =some fn)(hb:fn.body=some c){args:List AV}{g:Nat→Option Ob}{nx:Nat}{r:AV}{g':Nat→Option Ob}{gS:Nat}
  (ρ:Nat)(sh:List Nat)(tree:Nat→Tree)(dead:Nat→List Nat)(op:List Nat)(cl:Nat→Bool){T:Nat→Option FI}(hT:bh PP cl T)(iK: ∀k,cl k=true→uc T k=false)(fuel:Nat)(hd:cm cl tree c=true)(n:Nat)(hn:fn.ntmps=n)(ID:mL args.length n=true){rs:List ResultVar}(Tx:fn.results.toList=rs){I:Pr}(hI:I=an)
  (hk: ∀call:ot,Any PP call→pt (mK {I:=I,L:=L,ρ:=ρ,sh:=sh,tree:=tree,call:=call,op:=op,dead:=dead,cl:=cl,keys:=kD,eqs:=rC} T fuel 0) c (init n args g nx true) (post (mK {I:=I,L:=L,ρ:=ρ,sh:=sh,tree:=tree,call:=call,op:=op,dead:=dead,cl:=cl,keys:=kD,eqs:=rC} T fuel 0) rs fun r1 g1 yT=>Iz r1 r∧g1=g'∧yT=gS)):tI PP true f args g nx fun r1 g1 yT=>Iz r1 r∧g1=g'∧yT=gS:=
 PS hL hm hf hb true ρ sh tree dead op cl HS Oe hT iK fuel hd n hn ID Tx fun J call hJ hc _=>by rw[hJ,←hI];exact hk call hc
section
variable{I:Pr}(hI:I=an){M:Md}(hM:M= .an)
 include hM
theorem DH{r:Nat}(l:List Int):mI r (M.map ao l):=by
 subst hM
 exact yW fun x hx=>by
  obtain⟨z,_,rfl⟩:=List.mem_map.1 hx
  simp[ao,vi,An,ri]
theorem W6{r q:Nat}(h:q≠r)(l:List aI):mI r (M.map (aW M q) l):=by
 have h1: ∀o:aI,An r (aW M q o):=fun o=>by
  unfold aW
  simp only[An,ri,vi,vs,and_true,true_and]
  exact⟨h,DH hM _⟩
 subst hM
 exact yW fun x hx=>by
  obtain⟨z,_,rfl⟩:=List.mem_map.1 hx
  exact h1 z
theorem HE{r q:Nat}(h:q≠r)(l:List ag):mI r (M.map (az M q) l):=by
 have h1: ∀o:ag,An r (az M q o):=fun o=>by
  unfold az
  simp only[An,ri,vi,vs,and_true,true_and]
  exact⟨h,W6 hM h _⟩
 subst hM
 exact yW fun x hx=>by
  obtain⟨z,_,rfl⟩:=List.mem_map.1 hx
  exact h1 z
theorem xI{r q:Nat}(h:q≠r)(l:List aj):mI r (M.map (aq M q) l):=by
 have h1: ∀o:aj,An r (aq M q o):=fun o=>by
  unfold aq
  simp only[An,ri,vi,vs,and_true,true_and]
  exact⟨h,HE hM h _⟩
 subst hM
 exact yW fun x hx=>by
  obtain⟨z,_,rfl⟩:=List.mem_map.1 hx
  exact h1 z
theorem Uq{r:Nat}(l:List aj):Om (.agg [.sl r (M.map (aq M r) l)]):=by
 subst hM
 refine⟨r,_,rfl,_,rfl,fun x hx=>?_⟩
 obtain⟨b,_,rfl⟩:=List.mem_map.1 hx
 refine⟨b.name,b.arity,_,rfl,_,rfl,fun x hx=>?_⟩
 obtain⟨c,_,rfl⟩:=List.mem_map.1 hx
 refine⟨c.head,c.kids,_,c.result,rfl,_,rfl,fun x hx=>?_⟩
 obtain⟨o,_,rfl⟩:=List.mem_map.1 hx
 refine⟨o.kind,o.name,o.num,_,rfl,_,rfl,fun x hx=>?_⟩
 obtain⟨z,_,rfl⟩:=List.mem_map.1 hx
 exact⟨z,rfl⟩
 include hI
theorem Am{r q:Nat}(h:du q r=false)(l:List aj):I.nr r (M.map (aq M q) l):=by
 have:=xI hM (r:=r) (q:=q) (fun e=>by subst e;simp at h) l
 subst hI;exact this
theorem HF{r:Nat}(l:List Int):I.nr r (M.map ao l):=by
 have:=DH hM (r:=r) l
 subst hI;exact this
end
theorem Mg{I:Pr}(hI:I=an){r:Nat}{xs:List (List AV)}(h:mI r xs):I.nr r xs:=by subst hI;exact h
end Ab
namespace Ab
open Go
variable{P:Program}{W:World}{H:Type}{enc:TypeId×Value→H}{spare:Nat→Bool}
def rq(W:World):Env:={h:=W.heap,aM:=fun b o=> ∃v,aO W.heap b o=some v,dH:=fun _=>0,m:=fun _=>0,live:=fun _=>False,len:=fun _=>(0,0),own:=fun _=> .SX}
theorem PL(W:World):vT (rq W) W (fun _=>none) 0:=by
 refine⟨rfl,⟨fun b o h=>?_,fun b h=>absurd rfl h,fun b o _ h=>?_⟩,fun d h=>h,fun i=>⟨fun h=>h.elim,fun h=>absurd h (Nat.not_lt_zero _)⟩,fun b=>rfl,fun i ob h=>(by cases h),fun i ob h=>(by cases h),fun b h=>(by cases h)⟩
 ·obtain⟨v,hv⟩:=h
  have hv:aO W.heap b o=some v:=hv
  unfold aO at hv
  cases hb:W.heap[b]? with
  |none=>rw[hb]at hv;cases hv
  |some x=>exact(Array.getElem?_eq_some_iff.1 hb).1
 ·have h:1000000≤0:=h
  omega
def UH(W:World)(l:List AV)(cs:List Value):Prop:=cs.length=l.length∧ ∀(q:Nat) (a:AV) (v:Value),l[q]? =some a→cs[q]? =some v→Cz (rq W) a v
theorem Mk{β:Type}{f:Nat→Option β}{n:Nat}{l:List β}(h:(List.range n).mapM f=some l):l.length=n∧ ∀i,i<n→f i=l[i]? :=
 ⟨by simpa using mapM_some_length h,fun i hi=>mapM_some_get h i i (by simp[hi])⟩
theorem Ct{α:Type}{eA:α→List AV}{e t z:Nat}(ht:P.underlying t=some (.slice e))(hz:P.cellsOf e=z)(h0:0<z)(hlen: ∀x,(eA x).length=z)(aeK: ∀x,ca (eA x)=true)
  (he: ∀(n:Nat) (cs:List Value) (y:DataW H×List MemPlace),DataW.trod enc P W 0 spare true n e cs=some y→ ∃x:α,UH W (eA x) cs)
  {n:Nat}{cs:List Value}{y:DataW H×List MemPlace}(h:DataW.trod enc P W 0 spare true n t cs=some y): ∃(l:List α) (v:Value),cs=[v]∧Cz (rq W) (.sl 0 (l.map eA)) v:=by
 rcases DataW.trod_slice ht h with⟨rfl,_⟩|⟨a,len,cap,elems,rest,m,_,rfl,_,_,hlc,hcm,rH,wJ,_⟩
 ·exact⟨[],_,rfl,.mZ _ _ _⟩
 rw[hz]at wJ
 cases len with
 |zero=>exact⟨[],_,rfl,.mZ _ _ _⟩
 |succ len=>
 have row: ∀i,i<len+1→ ∃(x:α) (cs:List Value),UH W (eA x) cs∧cs.length=z∧ ∀q,q<z→W.cell? ((a.add (i*z)).add q)=cs[q]? :=fun i hi=>by
  have hg:=wJ i hi
  have aS:i<elems.length:=by omega
  rw[List.getElem?_eq_getElem aS]at hg
  obtain⟨cs,h1,h2⟩:=Option.bind_eq_some_iff.1 hg
  obtain⟨x,hx⟩:=he _ _ _ h2
  unfold World.cells? at h1
  split at h1
  ·obtain⟨h3,h4⟩:=Mk h1
   exact⟨x,cs,hx,h3,h4⟩
  ·cases h1
 obtain⟨x0,cs0,hx0,hl0,hc0⟩:=row 0 (by omega)
 have Z3:a.spot=none:=by
  have h1:=hc0 0 h0
  rw[Nat.zero_mul,List.getElem?_eq_getElem (by omega)]at h1
  have h2:W.cell? a=some cs0[0]:=by simpa[Addr.add]using h1
  unfold World.cell? at h2
  split at h2
  ·split at h2
   ·cases h2
   ·rename_i h3;simpa using h3
  ·cases h2
 obtain⟨b,o,sp⟩:=a
 dsimp only at Z3
 subst Z3
 have rows: ∀k,k≤len+1→ ∃l:List α,l.length=k∧ ∀i x,l[i]? =some x→ ∀q a,(eA x)[q]? =some a→ ∃v,aO W.heap b (o+(i*z+q))=some v∧Cz (rq W) a v:=by
  intro k
  induction k with
  |zero=>intro _;exact⟨[],rfl,fun i x h=>by simp at h⟩
  |succ k ih=>
   intro hk
   obtain⟨l,h1,h2⟩:=ih (by omega)
   obtain⟨x,cs,hx,iK,hc⟩:=row k (by omega)
   refine⟨l++[x],by simp[h1],fun i x' hi q a ha=>?_⟩
   by_cases aS:i<k
   ·rw[List.getElem?_append_left (by omega)]at hi;exact h2 i x' hi q a ha
   ·have:i=k:=by have:=(List.getElem?_eq_some_iff.1 hi).1;simp at this;omega
    subst this
    rw[List.getElem?_append_right (by omega)]at hi
    simp[h1]at hi
    subst hi
    have hq:q<z:=by rw[←hlen x];exact(List.getElem?_eq_some_iff.1 ha).1
    have h3:=hc q hq
    rw[ef,ef,List.getElem?_eq_getElem (by omega),jr]at h3
    refine⟨_,by rw[←Nat.add_assoc];exact h3,hx.2 q a _ ha (List.getElem?_eq_getElem _)⟩
 obtain⟨l,hl,hq⟩:=rows (len+1) (Nat.le_refl _)
 refine⟨l,_,rfl,?_⟩
 have key: ∀q a,(l.map eA).flatten[q]? =some a→ ∃v,aO W.heap b (o+q)=some v∧Cz (rq W) a v:=fun q a ha=>by
  have fG:(l.map eA).flatten.length=l.length*z:=by rw[aE (z:=z) (fun x hx=>by obtain⟨y,_,rfl⟩:=List.mem_map.1 hx;exact hlen y)];simp
  have aoU:q<l.length*z:=by rw[←fG];exact(List.getElem?_eq_some_iff.1 ha).1
  have hi:q / z<l.length:=(Nat.div_lt_iff_lt_mul h0).2 aoU
  have hm:=Nat.mod_lt q h0
  have mh:(l.map eA)[q / z]? =some (eA l[q / z]):=by simp[hi]
  have hf:=dP (z:=z) (xs:=l.map eA) (i:=q / z) (fun x hx=>by obtain⟨y,_,rfl⟩:=List.mem_map.1 hx;exact hlen y) mh (q % z) hm
  rw[Nat.div_add_mod' q z]at hf
  rw[hf]at ha
  have:=hq (q / z) l[q / z] (List.getElem?_eq_getElem hi) (q % z) a ha
  rwa [Nat.div_add_mod' q z]at this
 have hlm:(l.map eA).length=len+1:=by simp[hl]
 have hc:=Cz.sl (E:=rq W) 0 (l.map eA) z b o cap (fun q=>(aO W.heap b (o+q)).getD undef) (by rw[hlm];omega) (by rw[hlm];exact hlc) hcm h0 (fun x hx=>by obtain⟨y,_,rfl⟩:=List.mem_map.1 hx;exact hlen y) rfl
  (fun q a ha=>by
   obtain⟨i,hi⟩: ∃x∈l,a∈eA x:=by
    have:=List.mem_of_getElem? ha
    obtain⟨r,hr,MM⟩:=List.mem_flatten.1 this
    obtain⟨x,hx,rfl⟩:=List.mem_map.1 hr
    exact⟨x,hx,MM⟩
   obtain⟨j,hj⟩:=List.getElem?_of_mem hi.2
   exact bg (aeK i) j a hj)
  (fun q a ha=>by obtain⟨v,hv,_⟩:=key q a ha;exact⟨v,hv⟩) (fun q a ha=>by obtain⟨v,hv,_⟩:=key q a ha;show aO W.heap b (o+q)=_;rw[hv];rfl) (fun q a ha=>by obtain⟨v,hv,hc⟩:=key q a ha;rw[hv];exact hc)
 rw[hlm]at hc
 exact hc
set_option maxRecDepth 100000
open Go.Proofs
theorem open_int{n:Nat}{cs:List Value}{y:DataW H×List MemPlace}(h:DataW.trod enc PP W 0 spare true n 3 cs=some y): ∃z:Int,cs=[.int .i64 z]:=by
 obtain⟨z,h1,_⟩:=DataW.trod_int Tryz.underlying3 h
 exact⟨z,h1⟩
theorem DC{n:Nat}{cs:List Value}{y:DataW H×List MemPlace}(h:DataW.trod enc PP W 0 spare true n 9 cs=some y): ∃s:ByteArray,cs=[.string s]:=by
 obtain⟨z,h1,_⟩:=DataW.trod_string Tryz.underlying9 h
 exact⟨z,h1⟩
theorem PT:PP.cellsOf 3=1:=by kernel_rfl
theorem agc:PP.cellsOf 9=1:=by kernel_rfl
theorem akl:PP.cellsOf 30=1:=by kernel_rfl
theorem akj:PP.cellsOf 59=1:=by kernel_rfl
theorem akk:PP.cellsOf 55=1:=by kernel_rfl
theorem akn:PP.cellsOf 22=1:=by kernel_rfl
theorem aap:PP.cellsOf 64=4:=by kernel_rfl
theorem aaq:PP.cellsOf 61=4:=by kernel_rfl
theorem aas:PP.cellsOf 57=3:=by kernel_rfl
theorem akm:PP.cellsOf 24=1:=by kernel_rfl
theorem Qq{fs:Array Field}{cs:List Value}{m:Nat}{xs:List (DataW H×List MemPlace)}(hf: ∀(i:Nat) (f:Field),fs[i]? =some f→DataW.trod enc PP W 0 spare true m f.type ((cs.drop f.offset).take (PP.cellsOf f.type))=xs[i]?)
  {i t o k:Nat}{f:Field}{x:DataW H×List MemPlace}(h:fs[i]? =some f)(ht:f.type=t)(ho:f.offset=o)(hc:PP.cellsOf t=k)(hx:xs[i]? =some x):DataW.trod enc PP W 0 spare true m t ((cs.drop o).take k)=some x:=by
 have:=hf i f h
 rw[ht,ho,hc,hx]at this
 exact this
theorem W4{n:Nat}{cs:List Value}{y:DataW H×List MemPlace}(h:DataW.trod enc PP W 0 spare true n 64 cs=some y): ∃x:aI,UH W (aW .an 0 x) cs:=by
 obtain⟨xs,m,_,_,hl,hn,hf⟩:=DataW.trod_struct Tryz.underlying64 h
 rw[aap]at hl
 match cs,hl with
 |[a,b,c,d],_=>
  match xs,hn with
  |[x0,x1,x2,x3],_=>
   have f0:=Qq hf (i:=0) (t:=3) (o:=0) rfl rfl rfl PT rfl
   have f1:=Qq hf (i:=1) (t:=9) (o:=1) rfl rfl rfl agc rfl
   have f2:=Qq hf (i:=2) (t:=3) (o:=2) rfl rfl rfl PT rfl
   have f3:=Qq hf (i:=3) (t:=30) (o:=3) rfl rfl rfl akl rfl
   obtain⟨k,e0⟩:=open_int f0
   obtain⟨s,e1⟩:=DC f1
   obtain⟨z,e2⟩:=open_int f2
   obtain⟨l,v,e3,hc⟩:=Ct (eA:=ao) Tryz.underlying30 PT (by decide) (fun _=>rfl) (fun _=>rfl) (fun n cs y h=>by
    obtain⟨z,rfl⟩:=open_int h
    exact⟨z,rfl,fun q a v ha hv=>by
     match q,ha,hv with
     |0,ha,hv=>cases ha;cases hv;exact .v _⟩) f3
   simp only[List.drop_zero,List.drop_succ_cons,List.take_succ_cons,List.take_zero,List.cons.injEq,and_true]at e0 e1 e2 e3
   subst e0;subst e1;subst e2;subst e3
   refine⟨⟨k,s,z,l⟩,rfl,fun q a v ha hv=>?_⟩
   match q,ha,hv with
   |0,ha,hv=>cases ha;cases hv;exact .v _
   |1,ha,hv=>cases ha;cases hv;exact .v _
   |2,ha,hv=>cases ha;cases hv;exact .v _
   |3,ha,hv=>cases ha;cases hv;exact hc
theorem JA{n:Nat}{cs:List Value}{y:DataW H×List MemPlace}(h:DataW.trod enc PP W 0 spare true n 61 cs=some y): ∃x:ag,UH W (az .an 0 x) cs:=by
 obtain⟨xs,m,_,_,hl,hn,hf⟩:=DataW.trod_struct Tryz.underlying61 h
 rw[aaq]at hl
 match cs,hl with
 |[a,b,c,d],_=>
  match xs,hn with
  |[x0,x1,x2,x3],_=>
   have f0:=Qq hf (i:=0) (t:=9) (o:=0) rfl rfl rfl agc rfl
   have f1:=Qq hf (i:=1) (t:=3) (o:=1) rfl rfl rfl PT rfl
   have f2:=Qq hf (i:=2) (t:=59) (o:=2) rfl rfl rfl akj rfl
   have f3:=Qq hf (i:=3) (t:=3) (o:=3) rfl rfl rfl PT rfl
   obtain⟨s,e0⟩:=DC f0
   obtain⟨k,e1⟩:=open_int f1
   obtain⟨z,e3⟩:=open_int f3
   obtain⟨l,v,e2,hc⟩:=Ct (eA:=aW .an 0) Tryz.underlying59 aap (by decide) (fun _=>rfl) (fun _=>rfl) (fun n cs y h=>W4 h) f2
   simp only[List.drop_zero,List.drop_succ_cons,List.take_succ_cons,List.take_zero,List.cons.injEq,and_true]at e0 e1 e2 e3
   subst e0;subst e1;subst e2;subst e3
   refine⟨⟨s,k,l,z⟩,rfl,fun q a v ha hv=>?_⟩
   match q,ha,hv with
   |0,ha,hv=>cases ha;cases hv;exact .v _
   |1,ha,hv=>cases ha;cases hv;exact .v _
   |2,ha,hv=>cases ha;cases hv;exact hc
   |3,ha,hv=>cases ha;cases hv;exact .v _
theorem Me{n:Nat}{cs:List Value}{y:DataW H×List MemPlace}(h:DataW.trod enc PP W 0 spare true n 57 cs=some y): ∃x:aj,UH W (aq .an 0 x) cs:=by
 obtain⟨xs,m,_,_,hl,hn,hf⟩:=DataW.trod_struct Tryz.underlying57 h
 rw[aas]at hl
 match cs,hl with
 |[a,b,c],_=>
  match xs,hn with
  |[x0,x1,x2],_=>
   have f0:=Qq hf (i:=0) (t:=9) (o:=0) rfl rfl rfl agc rfl
   have f1:=Qq hf (i:=1) (t:=3) (o:=1) rfl rfl rfl PT rfl
   have f2:=Qq hf (i:=2) (t:=55) (o:=2) rfl rfl rfl akk rfl
   obtain⟨s,e0⟩:=DC f0
   obtain⟨k,e1⟩:=open_int f1
   obtain⟨l,v,e2,hc⟩:=Ct (eA:=az .an 0) Tryz.underlying55 aaq (by decide) (fun _=>rfl) (fun _=>rfl) (fun n cs y h=>JA h) f2
   simp only[List.drop_zero,List.drop_succ_cons,List.take_succ_cons,List.take_zero,List.cons.injEq,and_true]at e0 e1 e2
   subst e0;subst e1;subst e2
   refine⟨⟨s,k,l⟩,rfl,fun q a v ha hv=>?_⟩
   match q,ha,hv with
   |0,ha,hv=>cases ha;cases hv;exact .v _
   |1,ha,hv=>cases ha;cases hv;exact .v _
   |2,ha,hv=>cases ha;cases hv;exact hc
theorem Pe{n:Nat}{cs:List Value}{y:DataW H×List MemPlace}(h:DataW.trod enc PP W 0 spare true n 24 cs=some y): ∃(c:ai) (v:Value),cs=[v]∧Cz (rq W) (.sl 0 (c.blocks.map (aq .an 0))) v:=by
 obtain⟨xs,m,_,_,hl,hn,hf⟩:=DataW.trod_struct Tryz.underlying24 h
 rw[akm]at hl
 match cs,hl with
 |[a],_=>
  match xs,hn with
  |[x0],_=>
   have f0:=Qq hf (i:=0) (t:=22) (o:=0) rfl rfl rfl akn rfl
   obtain⟨l,v,e0,hc⟩:=Ct (eA:=aq .an 0) Tryz.underlying22 aas (by decide) (fun _=>rfl) (fun _=>rfl) (fun n cs y h=>Me h) f0
   simp only[List.drop_zero,List.take_succ_cons,List.take_zero,List.cons.injEq,and_true]at e0
   subst e0
   exact⟨⟨l⟩,a,rfl,hc⟩
end Ab
namespace Ab
open Go Go.Proofs Go.Proofs.YtcdinjhcnhepeaaGreatDoor
open Go.ChangeShapes Go.WideShapes Go.ChangeAt Go.RowKit
set_option maxRecDepth 100000
theorem laidOut:laidOutB Tryz.prog=true:=by kernel_rfl
theorem ahx:Tryz.prog.readableRec 24=true:=by kernel_rfl
theorem ahw:(24:TypeId)<Tryz.prog.types.size:=of_decide_eq_true (by kernel_rfl)
theorem anJ:ownKnob Tryz.prog.godebug=none:=by kernel_rfl
def UM(f:FuncId):Prop:= ∀(W:World) (v:Value) (c:ai),Cz (rq W) (.agg (aX .an 0 c)) v→Calls Tryz.prog f #[v] W fun e W'=>e= .returned (.bool true)∧bY W W'∧iC W W'
theorem lawC_of{f:FuncId}(h: ∀c:ai,j5 PP f [.agg (aX .an 0 c)] (fun _=>none) 0 (.v (.bool true)) (fun _=>none) 0):UM f:=fun W v c hv=>by
 refine(h c rfl (rq W) W [v] (PL W) rfl (fun q a y ha hy=>by
  match q,ha,hy with
  |0,ha,hy=>cases ha;cases hy;exact hv)).mono ?_
 rintro e W' ⟨x,E',he,hG,hE,hS,hc,_,hA⟩
 have:=bH hc
 subst this
 exact⟨he,hA,hS⟩
theorem amm{f:FuncId}{fn:Func}{s:ChangeSpec}(hp:fn.params= #[24])(hr:fn.resultTypes= #[4])(hv:s.vars=[])(hs: ∀(H:Type) (d:DataW H),s.fn H [d]={results:=[.lit (.bool true)],args:=[d]})(MH:UM f)
  (H:Type)(enc:TypeId×Value→H)(W:World)(args:Array Value)(ds gs:List (DataW H))(before:List MemPlace)
  (base:Nat)(nj: ∀(j:Nat) t v,fn.params[j]? =some t→args[j]? =some v→Value.okWide Tryz.prog W .any base t v)(hW:DataW.Whole enc Tryz.prog fn.params.toList s.vars false W args.toList ds gs before):
  Calls Tryz.prog f args W fun e W'=> ∃v,e= .returned v∧s.post enc Tryz.prog fn false true false false W args v W':=by
 have hW':=hW
 obtain⟨p,q,hA0,hV,rfl,hfz,hnd⟩:=hW
 have hA:DataW.TrodAll enc Tryz.prog W 0 (fun _=>true) true fn.params.toList args.toList ds p:=hA0
 rw[hp]at hA
 rw[hv]at hV
 obtain⟨v0,d0,rfl,rfl,h0⟩:=trodAll_one hA
 obtain⟨rfl,rfl⟩:=trodVars_none hV
 obtain⟨n,hn⟩:=h0
 obtain⟨c,x,IE,MK⟩:=Pe hn
 have nj:=nj 0 24 v0 (by rw[hp];rfl) rfl
 unfold Value.okWide at nj
 rw[Tryz.underlying24]at nj
 obtain⟨cs,rfl,_,_⟩:=nj
 have IE:cs.toList=[x]:=by simpa[Value.cells]using IE
 have MK:Cz (rq W) (.agg (aX .an 0 c)) (.agg cs):=by
  have:cs=[x].toArray:=by rw[←IE]
  rw[this]
  exact .agg _ [x] rfl fun q a y ha hy=>by
   match q,ha,hy with
   |0,ha,hy=>cases ha;cases hy;exact MK
 refine(MH W (.agg cs) c MK).mono fun e W' ⟨he,hA,hS⟩=>⟨_,he,?_⟩
 have aS: ∀x∈p,x.block<W.heap.size:=fun x hx=>hW'.lt x (by simpa using hx)
 have zi:(s.fn H ([d0]++[])).results=[.lit (.bool true)]:=by rw[List.append_nil,hs]
 have KT:(s.fn H ([d0]++[])).args=[d0]:=by rw[List.append_nil,hs]
 have hs3:(s.fn H ([d0]++[])).vars=[]:=by rw[List.append_nil,hs]
 refine⟨[d0],[],_,[],p,[],hW',?_,?_,?_,?_,fun h=>(by cases h)⟩
 ·rw[hr,zi]
  exact trodAll_mk1 (shut_bool Tryz.underlying4 _)
 ·rw[hp,KT]
  refine trodAll_mk1 (WideElems.Trod_stays laidOut ahx ahw ⟨n,hn⟩ (fun x hx=>?_) fun x hx=>by simpa using aS x hx)
  have hb:=hA x.block (aS x hx)
  cases x with
  |cell b off=>show W'.cell? _=W.cell? _;unfold World.cell?;rw[show W'.heap[b]? =W.heap[b]? from hb]
  |map b=>exact hb
 ·rw[hv,hs3];rfl
 ·exact World.keptBut_mono (fun _ h=>h.elim) (World.keptBut_none_iff.2 ⟨hS.1,hS.2.2,hA⟩)
end Ab
namespace Ab
open Go
section
variable{α:Type}{enc:α→List AV}{I:Pr}{M:Md}
def agm(m:Nat)(h:Int)(l:List α):Option Nat:=if 0≤h∧h≤m∧l.length=m then some h.toNat else none
theorem agl(hI:I=an)(hM:M= .an){m j:Nat}{h:Int}{l:List α}(hx:agm m h l=some j)(hm:m≤1048576):0=0∧I.fp (M.map enc l)=m∧m≤1048576∧I.mS 0 h m∧h.toNat=j:=by
 subst hI;subst hM
 unfold agm at hx
 split at hx
 ·rename_i hc
  cases hx
  refine⟨rfl,by show(l.map enc).length=m;simpa using hc.2.2,hm,?_,rfl⟩
  exact⟨by omega,hc.1,by omega⟩
 ·cases hx
theorem Q0{r:Nat}(hM:M= .an)(l:List α)(k:Nat):AV.sl r ((M.map enc l).take k)=AV.sl r (M.map enc (l.take k)):=by
 subst hM
 show AV.sl r ((l.map enc).take k)=AV.sl r ((l.take k).map enc)
 rw[List.map_take]
end
theorem FH{s:St}{K:St→Prop}(vu:Option (List Fr))(vt:List (Nat×AV))(vb:List (Nat×Ob))(vg:Nat→Option Ob)(vn:Nat)(hk:wk s (p8 s vu vt vb vg vn))(h:K (p8 s vu vt vb vg vn)): ∃s2,wk s s2∧K s2:=⟨_,hk,h⟩
end Ab
namespace Ab
open Go
section
variable{α β S R:Type}
theorem fin{P:Prop}(k:P:=by cbv;all_goals(repeat' apply And.intro);all_goals first|trivial|rfl|exact aH (by assumption)):P:=k
theorem bN{P Q:Prop}(f:P→Q)(k:P:=by cbv;all_goals(repeat' apply And.intro);all_goals first|trivial|rfl|exact aH (by assumption)):Q:=f k
theorem si{c:Bool}{A B:Option R}{v:R}{G1 G2:Prop}(h:(bif c then A else B)=some v)(h1:A=some v→G1)(h2:B=some v→G2):(c=true→G1)∧(c=false→G2):=Cr h rfl h1 h2
theorem bB{A B:Prop}(k:B:=by(repeat' apply And.intro)<;>first|trivial|rfl|exact aH (by assumption)):A∨B:= .inr k
def rg(a:Nat):Nat→List Nat
 |0=>[]
 |n+1=>a::rg (a+1) n
def on:List Nat→Tree→Tree
 |[],t=>t
 |i::l,t=> .one i (on l t)
theorem lp{W:St→(Ex→St→Prop)→Prop}{s:St}{Q:Ex→St→Prop}{body:(S→Option R)→S→Option R}{n:Nat}{zZ:S}{v:R}(h:iter body n zZ=some v)(vt:S→List (Nat×AV))(vb:S→List (Nat×Ob))
  (hr: ∀(R:St→Prop) (m:Nat),(∀(st:S) (s':St),iter body m st=some v→wk s' (p8 s none (vt st) (vb st) s.g s.nx)→R s')→ ∀st:S,body (iter body m) st=some v→
   W (p8 s none (vt st) (vb st) s.g s.nx) (U1 R Q))
  (h0:wk s (p8 s none (vt zZ) (vb zZ) s.g s.nx):=by cbv;all_goals(repeat' apply And.intro);all_goals first|trivial|rfl|exact aH (by assumption)):Nj W s Q:=step_loop h none vt vb (fun _=>s.g) (fun _=>s.nx) h0 hr
theorem lpD{W:St→(Ex→St→Prop)→Prop}{s:St}{Q:Ex→St→Prop}{body:(S→Option R)→S→Option R}{n:Nat}{zZ:S}{v:R}(h:iter body n zZ=some v)(vd:List Nat)(vt:S→List (Nat×AV))(vb:S→List (Nat×Ob))
  (hr: ∀(R:St→Prop) (m:Nat),(∀(st:S) (s':St),iter body m st=some v→wk s' (p7 s vd none (vt st) (vb st) s.g s.nx)→R s')→ ∀st:S,body (iter body m) st=some v→
   W (p7 s vd none (vt st) (vb st) s.g s.nx) (U1 R Q))
  (h0:wk s (p7 s vd none (vt zZ) (vb zZ) s.g s.nx):=by cbv;all_goals(repeat' apply And.intro);all_goals first|trivial|rfl|exact aH (by assumption)):px W n s Q:=Lq h vd none vt vb (fun _=>s.g) (fun _=>s.nx) h0 hr
theorem KO{W:St→(Ex→St→Prop)→Prop}{s:St}{Q:Ex→St→Prop}{N:Nat}(vd:List Nat)(vt:List (Nat×AV))
  (h: ∀R:St→Prop,(∀s',px W N s' Q→R s')→W (p7 s vd none vt [] s.g s.nx) (U1 R Q))
  (hk:wk s (p7 s vd none vt [] s.g s.nx):=by cbv;all_goals(repeat' apply And.intro);all_goals first|trivial|rfl|exact aH (by assumption)|exact adQ (by assumption) (by decide)):px W (N+1) s Q:=Lo vd none vt [] s.g s.nx hk h
def bQ(f:Nat)(args:List AV)(r:AV)(g:Nat→Option Ob)(nx:Nat):Prop:=nw PP f∧j5 PP f args g nx r g nx
theorem us{call:ot}(hc:Any PP call){ρ f:Nat}{args:List AV}{r:AV}{g:Nat→Option Ob}{nx:Nat}(e:bQ f args r g nx):call ρ f args g nx r g nx:=hc.use e.1 e.2
theorem bQ.wk{f:Nat}{args args':List AV}{r:AV}{g:Nat→Option Ob}{nx:Nat}(e:bQ f args' r g nx)(hw:Ld args args')(hi:ca args'=true:=by rfl):bQ f args r g nx:=⟨e.1,e.2.amc hw hi⟩
theorem cC{f:Nat}{fn:Func}(hf:PP.funcs[f]? =some fn)(c:Code){args:List AV}{g:Nat→Option Ob}{nx:Nat}{r:AV}(ρ:Nat)(tree:Nat→Tree)(dead:Nat→List Nat)(op:List Nat)(n:Nat)(hn:fn.ntmps=n)(rs:List ResultVar){I:Pr}(hI:I=an)
  (hk: ∀call:ot,Any PP call→pt (mK {I:=I,L:=L,ρ:=ρ,sh:=[],tree:=tree,call:=call,op:=op,dead:=dead,cl:=fQ,keys:=kD,eqs:=rC} (fun _=>none) 0 0) c (init n args g nx) (post (mK {I:=I,L:=L,ρ:=ρ,sh:=[],tree:=tree,call:=call,op:=op,dead:=dead,cl:=fQ,keys:=kD,eqs:=rC} (fun _=>none) 0 0) rs fun r1 g1 yT=>Iz r1 r∧g1=g∧yT=nx))
  (hb:fn.body=some c:=by kernel_rfl)(hd:cm fQ tree c=true:=by kernel_rfl)(Tx:fn.results.toList=rs:=by kernel_rfl)(ID:mL args.length n=true:=by rfl)(hr:cq r=true:=by rfl)(hm:(fn.name== "runtime.NumGoroutine")=false:=by kernel_rfl):bQ f args r g nx:=
 ⟨enters hf hb hm,AI lay mixed hf hb hr ρ [] tree dead op fQ (sL PP fQ) (cl0 fQ) 0 hd n hn ID Tx hI hk⟩
theorem yc{f:Nat}{fn:Func}(hf:PP.funcs[f]? =some fn)(c:Code){args:List AV}{g:Nat→Option Ob}{nx:Nat}{r:AV}(ρ:Nat)(tree:Nat→Tree)(dead:Nat→List Nat)(op:List Nat)(n:Nat)(hn:fn.ntmps=n)(rs:List ResultVar){I:Pr}(hI:I=an){T:Nat→Option FI}(hT:bh PP fQ T)(fuel:Nat)
  (hk: ∀call:ot,Any PP call→pt (mK {I:=I,L:=L,ρ:=ρ,sh:=[],tree:=tree,call:=call,op:=op,dead:=dead,cl:=fQ,keys:=kD,eqs:=rC} T fuel 0) c (init n args g nx) (post (mK {I:=I,L:=L,ρ:=ρ,sh:=[],tree:=tree,call:=call,op:=op,dead:=dead,cl:=fQ,keys:=kD,eqs:=rC} T fuel 0) rs fun r1 g1 yT=>Iz r1 r∧g1=g∧yT=nx))
  (hb:fn.body=some c:=by kernel_rfl)(hd:cm fQ tree c=true:=by kernel_rfl)(Tx:fn.results.toList=rs:=by kernel_rfl)(ID:mL args.length n=true:=by rfl)(hr:cq r=true:=by rfl)(hm:(fn.name== "runtime.NumGoroutine")=false:=by kernel_rfl)
  (iK: ∀k,fQ k=true→uc T k=false:=by repeat'(first|exact cl0 fQ|refine Ip (by kernel_rfl) ?_)):bQ f args r g nx:=
 ⟨enters hf hb hm,AI lay mixed hf hb hr ρ [] tree dead op fQ hT iK fuel hd n hn ID Tx hI hk⟩
end
section
variable{α:Type}{enc:α→List AV}{M:Md}
theorem dg{r:Nat}{l0 l:List α}{u:Unit}(hM:M= .an)(h:eu (M.ln l0) l=some u){X:List (List AV)}(hX:X=List.take (M.ln l0) (M.map enc l):=by first|rfl|rw[List.take.eq_def]):AV.sl r X=AV.sl r (M.map enc l):=by
 rw[hX];exact Xh hM h
theorem amn{r:Nat}(hM:M= .an)(l:List α)(k:Nat){X:List (List AV)}(hX:X=List.take k (M.map enc l):=by first|rfl|rw[List.take.eq_def]):AV.sl r X=AV.sl r (M.map enc (l.take k)):=by
 rw[hX];exact Q0 hM l k
end
end Ab
namespace Ab
open Go
set_option maxHeartbeats 100000000
set_option maxRecDepth 100000
def EZ(I:Pr)(M:Md)(n:Nat)(br:ag)(m:Nat):Nat→List Bool→Int→Option (List Bool)
 |0=>fun _ _=>none
 |k+1=>fun l x=>
  (gN m x).bind fun k1=>
  (gK l k1).bind fun x2=>
  bif x2 then some l else
  (fU l k1 true).bind fun l3=>
  (gI br.ops x).bind fun x4=>
  bif (I.aN x4.kind 3)then
   (some (au x4.args)).bind fun n5=>
   iter (fun(self:List Bool×Int→Option (List Bool)) st=>match st with
    |(l6,z7)=>
     bif (I.aU z7 n5)then
      (gI x4.args z7).bind fun x8=>
      (EZ I M n br m k l6 x8).bind fun l9=>
      self (l9,(I.wrap .i64 (I.add z7 1)))
     else some l6) n (l3,0)
  else some l3
def mY(I:Pr)(M:Md)(n:Nat)(a0:List Int):Option (List Int):=
 (It 8 [] a0).bind fun l1=>
 some l1
def eM:ByteArray:=⟨#[111,110,101,115]⟩
def qH:ByteArray:=⟨#[109,111,114,101]⟩
def adY(k:ByteArray):List aI:=[⟨3,⟨#[97]⟩,0,[]⟩,⟨5,k,0,[]⟩,⟨3,⟨#[99,111,110,115]⟩,0,[0,1]⟩]
def BU(k:ByteArray):aj:=⟨k,0,[⟨⟨#[]⟩,0,adY k,2⟩]⟩
def sU(I:Pr)(M:Md)(n:Nat):Option ai:=some ⟨[BU eM,BU qH]⟩
def ik(I:Pr)(M:Md)(n:Nat)(a0:aI):Option Bool:=
 (some (lB a0.name)).bind fun n1=>
 (some (au a0.args)).bind fun n2=>
 some (I.pick (I.aU 40 n1) true (I.aU 9 n2))
def ke(I:Pr)(M:Md)(n:Nat)(a0:List aI)(n1:Int)(k:Int→Option Int)(self:Int→Option Int)(z2:Int):Option Int:=
 bif (I.aU z2 n1)then
  (gI a0 z2).bind fun x3=>
  (ik I M n x3).bind fun y4=>
  bif y4 then
  some z2
  else
  self (I.wrap .i64 (I.add z2 1))
 else
  k z2
def lL(I:Pr)(M:Md)(n:Nat)(a0:List aI):Option Int:=
 (some (au a0)).bind fun n1=>
 iter (ke I M n a0 n1 (fun z5=>
  some (-1))) n 0
def eX(I:Pr)(M:Md)(n:Nat)(a0:List aI):Option Bool:=
 (lL I M n a0).bind fun y1=>
 some (I.rG 0 y1)
def kC(I:Pr)(M:Md)(n:Nat)(a0:ag):Option Bool:=
 (some (lB a0.head)).bind fun n1=>
 (some (au a0.ops)).bind fun n2=>
 (cL (I.pick (I.aU 40 n1) true (I.aU 70 n2)) false (eX I M n a0.ops) default).bind fun y3=>
 some (I.pick (I.pick (I.aU 40 n1) true (I.aU 70 n2)) true y3)
def hZ(I:Pr)(M:Md)(n:Nat)(a0:List ag)(n1:Int)(k:Int→Option Int)(self:Int→Option Int)(z2:Int):Option Int:=
 bif (I.aU z2 n1)then
  (gI a0 z2).bind fun x3=>
  (kC I M n x3).bind fun y4=>
  bif y4 then
  some z2
  else
  self (I.wrap .i64 (I.add z2 1))
 else
  k z2
def iU(I:Pr)(M:Md)(n:Nat)(a0:List ag):Option Int:=
 (some (au a0)).bind fun n1=>
 iter (hZ I M n a0 n1 (fun z5=>
  some (-1))) n 0
def dN(I:Pr)(M:Md)(n:Nat)(a0:List ag):Option Bool:=
 (iU I M n a0).bind fun y1=>
 some (I.rG 0 y1)
def nO(I:Pr)(M:Md)(n:Nat)(a0:aj):Option Bool:=
 (some (lB a0.name)).bind fun n1=>
 (some (au a0.af)).bind fun n2=>
 (cL (I.pick (I.aU 40 n1) true (I.aU 9 n2)) false (dN I M n a0.af) default).bind fun y3=>
 some (I.pick (I.pick (I.aU 40 n1) true (I.aU 9 n2)) true y3)
def iG(I:Pr)(M:Md)(n:Nat)(a0:List aj)(n1:Int)(k:Int→Option Int)(self:Int→Option Int)(z2:Int):Option Int:=
 bif (I.aU z2 n1)then
  (gI a0 z2).bind fun x3=>
  (nO I M n x3).bind fun y4=>
  bif y4 then
  some z2
  else
  self (I.wrap .i64 (I.add z2 1))
 else
  k z2
def jP(I:Pr)(M:Md)(n:Nat)(a0:List aj):Option Int:=
 (some (au a0)).bind fun n1=>
 iter (iG I M n a0 n1 (fun z5=>
  some (-1))) n 0
def dX(I:Pr)(M:Md)(n:Nat)(a0:List aj):Option Bool:=
 (jP I M n a0).bind fun y1=>
 some (I.rG 0 y1)
def wj(I:Pr)(M:Md)(n:Nat)(a0:ai):Option Bool:=
 (some (au a0.blocks)).bind fun n1=>
 (cL (I.aU 16 n1) false (dX I M n a0.blocks) default).bind fun y2=>
 some (I.pick (I.aU 16 n1) true y2)
def bI(I:Pr)(M:Md)(n:Nat)(a0:Int)(a1:ByteArray)(a2:Int)(a3:List Int):Option aI:=
 some (⟨a0,a1,a2,a3⟩:aI)
def dh(I:Pr)(M:Md)(n:Nat)(a0:Int)(a1:List aI):Option (List ag):=
 some ([(⟨⟨#[]⟩,0,a1,a0⟩:ag)])
def cv(I:Pr)(M:Md)(n:Nat)(a0:ByteArray)(a1:Int)(a2:List ag):Option aj:=
 some (⟨a0,a1,a2⟩:aj)
def pU(I:Pr)(M:Md)(n:Nat)(a0:List aj):Option ai:=
 some (⟨a0⟩:ai)
def pf(I:Pr)(M:Md)(n:Nat):Option ai:=
 (bI I M n 3 (⟨#[97]⟩:ByteArray) 0 []).bind fun y1=>
 (bI I M n 5 (⟨#[111,110,101,115]⟩:ByteArray) 0 []).bind fun y2=>
 (bI I M n 3 (⟨#[99,111,110,115]⟩:ByteArray) 0 ([0,1])).bind fun y3=>
 (dh I M n 2 ([y1,y2,y3])).bind fun y4=>
 (cv I M n (⟨#[111,110,101,115]⟩:ByteArray) 0 y4).bind fun y5=>
 (bI I M n 1 (⟨#[]⟩:ByteArray) 0 []).bind fun y6=>
 (dh I M n 0 ([y6])).bind fun y7=>
 (cv I M n (⟨#[105,100]⟩:ByteArray) 1 y7).bind fun y8=>
 (bI I M n 4 (⟨#[111,110,101,115]⟩:ByteArray) 0 []).bind fun y9=>
 (bI I M n 5 (⟨#[105,100]⟩:ByteArray) 0 ([0])).bind fun qT=>
 (bI I M n 5 (⟨#[111,110,101,115]⟩:ByteArray) 0 []).bind fun rJ=>
 (bI I M n 3 (⟨#[112]⟩:ByteArray) 0 ([1,2])).bind fun CG=>
 (dh I M n 3 ([y9,qT,rJ,CG])).bind fun ov=>
 (cv I M n (⟨#[116,119,111]⟩:ByteArray) 0 ov).bind fun EK=>
 (pU I M n ([y5,y8,EK])).bind fun Ft=>
 some Ft
def zF(I:Pr)(M:Md)(n:Nat)(a0:ag):Option Bool:=
 (some (au a0.ops)).bind fun n1=>
 some (I.pick (I.aU 0 n1) (I.rG n1 60) false)
def gQ(I:Pr)(M:Md)(n:Nat)(a0:ag):Option Bool:=
 (zF I M n a0).bind fun y1=>
 some (I.not y1)
def hD(I:Pr)(M:Md)(n:Nat)(a0:List ag)(n1:Int)(k:Int→Option Int)(self:Int→Option Int)(z2:Int):Option Int:=
 bif (I.aU z2 n1)then
  (gI a0 z2).bind fun x3=>
  (gQ I M n x3).bind fun y4=>
  bif y4 then
  some z2
  else
  self (I.wrap .i64 (I.add z2 1))
 else
  k z2
def iT(I:Pr)(M:Md)(n:Nat)(a0:List ag):Option Int:=
 (some (au a0)).bind fun n1=>
 iter (hD I M n a0 n1 (fun z5=>
  some (-1))) n 0
def gp(I:Pr)(M:Md)(n:Nat)(a0:List ag):Option Bool:=
 (iT I M n a0).bind fun y1=>
 some (I.rG 0 y1)
def jq(I:Pr)(M:Md)(n:Nat)(a0:List ag):Option Bool:=
 (gp I M n a0).bind fun y1=>
 some (I.not y1)
def zE(I:Pr)(M:Md)(n:Nat)(a0:ag):Option Bool:=
 some (I.pick (I.rG 0 a0.kids) (I.rG a0.kids 4) false)
def gP(I:Pr)(M:Md)(n:Nat)(a0:ag):Option Bool:=
 (zE I M n a0).bind fun y1=>
 some (I.not y1)
def gZ(I:Pr)(M:Md)(n:Nat)(a0:List ag)(n1:Int)(k:Int→Option Int)(self:Int→Option Int)(z2:Int):Option Int:=
 bif (I.aU z2 n1)then
  (gI a0 z2).bind fun x3=>
  (gP I M n x3).bind fun y4=>
  bif y4 then
  some z2
  else
  self (I.wrap .i64 (I.add z2 1))
 else
  k z2
def iS(I:Pr)(M:Md)(n:Nat)(a0:List ag):Option Int:=
 (some (au a0)).bind fun n1=>
 iter (gZ I M n a0 n1 (fun z5=>
  some (-1))) n 0
def gn(I:Pr)(M:Md)(n:Nat)(a0:List ag):Option Bool:=
 (iS I M n a0).bind fun y1=>
 some (I.rG 0 y1)
def jo(I:Pr)(M:Md)(n:Nat)(a0:List ag):Option Bool:=
 (gn I M n a0).bind fun y1=>
 some (I.not y1)
def kX(I:Pr)(M:Md)(n:Nat)(a1:Int)(k:ByteArray→Option ByteArray)(self:ByteArray→Option ByteArray)(z1:ByteArray):Option ByteArray:=
 (some (lB z1)).bind fun n2=>
 (cL (I.aU 0 n2) true (gB z1 (I.wrap .i64 (I.sub n2 1))) default).bind fun x3=>
 bif (I.pick (I.aU 0 n2) (I.aN x3 a1) false)then
  (El z1 0 (I.wrap .i64 (I.sub n2 1))).bind fun s4=>
  self s4
 else
  k z1
def mO(I:Pr)(M:Md)(n:Nat)(a0:ByteArray)(a1:Int):Option ByteArray:=
 iter (kX I M n a1 (fun z5=>
  some z5)) n a0
def lI(I:Pr)(M:Md)(n:Nat)(a1:Int)(k:ByteArray→Option ByteArray)(self:ByteArray→Option ByteArray)(z1:ByteArray):Option ByteArray:=
 (some (lB z1)).bind fun n2=>
 (cL (I.aU 0 n2) true (gB z1 0) default).bind fun x3=>
 bif (I.pick (I.aU 0 n2) (I.aN x3 a1) false)then
  (El z1 1 (lB z1)).bind fun s4=>
  self s4
 else
  k z1
def nE(I:Pr)(M:Md)(n:Nat)(a0:ByteArray)(a1:Int):Option ByteArray:=
 iter (lI I M n a1 (fun z5=>
  some z5)) n a0
def lJ(I:Pr)(M:Md)(n:Nat)(a0:ByteArray)(k:(List Bool)×Int→Option ((List Bool)×Bool))(self:(List Bool)×Int→Option ((List Bool)×Bool))(st:(List Bool)×Int):Option ((List Bool)×Bool):=
 match st with
 |(l2,z3)=>
 (some (lB a0)).bind fun n4=>
 bif (I.aU z3 n4)then
  (gB a0 z3).bind fun x5=>
  bif (I.rG 128 x5)then
  (mU 256 l2).bind fun u6=>
  (mU 256 l2).bind fun u7=>
  (mU 256 l2).bind fun u8=>
  some (l2,false)
  else
  (gN 256 x5).bind fun k9=>
  (gK l2 k9).bind fun vX=>
  (fU l2 k9 true).bind fun IB=>
  self (IB,(I.wrap .i64 (I.add z3 1)))
 else
  k (l2,z3)
def iM(I:Pr)(M:Md)(n:Nat)(a0:ByteArray):Option ((List Bool)×Bool):=
 (some (List.replicate 256 (false:Bool))).bind fun l1=>
 iter (lJ I M n a0 (fun(iJ,nz)=>
  (mU 256 iJ).bind fun u14=>
  (mU 256 iJ).bind fun u15=>
  (mU 256 iJ).bind fun u16=>
  some (iJ,true))) n (l1,0)
def bZ(I:Pr)(M:Md)(n:Nat)(y6:(List Bool)×Bool)(k:ByteArray→Option ByteArray)(self:ByteArray→Option ByteArray)(uh:ByteArray):Option ByteArray:=
 (some (lB uh)).bind fun DJ=>
 bif (I.aU 0 DJ)then
  (gB uh 0).bind fun qf=>
  (gN 256 qf).bind fun Tq=>
  (gK y6.1 Tq).bind fun Fv=>
  bif (I.not Fv)then
  k uh
  else
  (El uh 1 (lB uh)).bind fun s21=>
  self s21
 else
  k uh
def cM(I:Pr)(M:Md)(n:Nat)(y6:(List Bool)×Bool)(k:ByteArray→Option ByteArray)(self:ByteArray→Option ByteArray)(z9:ByteArray):Option ByteArray:=
 (some (lB z9)).bind fun JJ=>
 bif (I.aU 0 JJ)then
  (gB z9 (I.wrap .i64 (I.sub JJ 1))).bind fun Fw=>
  (gN 256 Fw).bind fun k12=>
  (gK y6.1 k12).bind fun CL=>
  bif (I.not CL)then
  k z9
  else
  (El z9 0 (I.wrap .i64 (I.sub JJ 1))).bind fun s22=>
  self s22
 else
  k z9
def ju(I:Pr)(M:Md)(n:Nat)(a0:ByteArray)(a1:ByteArray):Option ByteArray:=
 bif (I.pick (I.seq a0 (⟨#[]⟩:ByteArray)) true (I.seq a1 (⟨#[]⟩:ByteArray)))then
 some a0
 else
 (some (lB a1)).bind fun n1=>
 (cL (I.aN n1 1) true (gB a1 0) default).bind fun x2=>
 bif (I.pick (I.aN n1 1) (I.aU x2 128) false)then
  (gB a1 0).bind fun x3=>
  (mO I M n a0 x3).bind fun y4=>
  (nE I M n y4 x3).bind fun y5=>
  some y5
 else
  (iM I M n a1).bind fun y6=>
  (some (List.replicate 256 (false:Bool))).bind fun l7=>
  (mU 256 l7).bind fun u8=>
  bif y6.2 then
  iter (cM I M n y6 (fun eg=>
   iter (bZ I M n y6 (fun AS=>
    some AS)) n eg)) n a0
  else
  none
def nn(I:Pr)(M:Md)(n:Nat)(a0:ByteArray):Option Bool:=
 (some (lB a0)).bind fun n1=>
 (cL (I.pick (I.aU 0 n1) (I.rG n1 8) false) true (ju I M n a0 (⟨#[97,98,99,100,101,102,103,104,105,106,107,108,109,110,111,112,113,114,115,116,117,118,119,120,121,122]⟩:ByteArray)) default).bind fun y2=>
 some (I.pick (I.pick (I.aU 0 n1) (I.rG n1 8) false) (I.seq y2 (⟨#[]⟩:ByteArray)) false)
def jI(I:Pr)(M:Md)(n:Nat)(a0:ag):Option Bool:=
 some (I.seq a0.head (⟨#[]⟩:ByteArray))
def kO(I:Pr)(M:Md)(n:Nat)(a0:ag):Option Bool:=
 (jI I M n a0).bind fun y1=>
 (cL y1 false (nn I M n a0.head) default).bind fun y2=>
 some (I.pick y1 true y2)
def gO(I:Pr)(M:Md)(n:Nat)(a0:ag):Option Bool:=
 (kO I M n a0).bind fun y1=>
 some (I.not y1)
def gY(I:Pr)(M:Md)(n:Nat)(a0:List ag)(n1:Int)(k:Int→Option Int)(self:Int→Option Int)(z2:Int):Option Int:=
 bif (I.aU z2 n1)then
  (gI a0 z2).bind fun x3=>
  (gO I M n x3).bind fun y4=>
  bif y4 then
  some z2
  else
  self (I.wrap .i64 (I.add z2 1))
 else
  k z2
def iR(I:Pr)(M:Md)(n:Nat)(a0:List ag):Option Int:=
 (some (au a0)).bind fun n1=>
 iter (gY I M n a0 n1 (fun z5=>
  some (-1))) n 0
def gj(I:Pr)(M:Md)(n:Nat)(a0:List ag):Option Bool:=
 (iR I M n a0).bind fun y1=>
 some (I.rG 0 y1)
def jn(I:Pr)(M:Md)(n:Nat)(a0:List ag):Option Bool:=
 (gj I M n a0).bind fun y1=>
 some (I.not y1)
def kN(I:Pr)(M:Md)(n:Nat)(a0:ag)(a2:aj):Option Bool:=
 (jI I M n a0).bind fun y1=>
 (some (au a2.af)).bind fun n2=>
 some (I.pick y1 (I.pick (I.aU 1 n2) true (I.not (I.aN a0.kids 0))) false)
def gX(I:Pr)(M:Md)(n:Nat)(a0:List ag)(ug:aj)(n1:Int)(k:Int→Option Int)(self:Int→Option Int)(z2:Int):Option Int:=
 bif (I.aU z2 n1)then
  (gI a0 z2).bind fun x3=>
  (kN I M n x3 ug).bind fun y4=>
  bif y4 then
  some z2
  else
  self (I.wrap .i64 (I.add z2 1))
 else
  k z2
def iQ(I:Pr)(M:Md)(n:Nat)(a0:List ag)(ug:aj):Option Int:=
 (some (au a0)).bind fun n1=>
 iter (gX I M n a0 ug n1 (fun z5=>
  some (-1))) n 0
def dM(I:Pr)(M:Md)(n:Nat)(a0:List ag)(ug:aj):Option Bool:=
 (iQ I M n a0 ug).bind fun y1=>
 some (I.rG 0 y1)
def gM(I:Pr)(M:Md)(n:Nat)(a0:ag):Option Bool:=
 (jI I M n a0).bind fun y1=>
 some (I.not y1)
def gW(I:Pr)(M:Md)(n:Nat)(a0:List ag)(n1:Int)(k:Int→Option Int)(self:Int→Option Int)(z2:Int):Option Int:=
 bif (I.aU z2 n1)then
  (gI a0 z2).bind fun x3=>
  (gM I M n x3).bind fun y4=>
  bif y4 then
  some z2
  else
  self (I.wrap .i64 (I.add z2 1))
 else
  k z2
def iP(I:Pr)(M:Md)(n:Nat)(a0:List ag):Option Int:=
 (some (au a0)).bind fun n1=>
 iter (gW I M n a0 n1 (fun z5=>
  some (-1))) n 0
def gg(I:Pr)(M:Md)(n:Nat)(a0:List ag):Option Bool:=
 (iP I M n a0).bind fun y1=>
 some (I.rG 0 y1)
def jm(I:Pr)(M:Md)(n:Nat)(a0:List ag):Option Bool:=
 (gg I M n a0).bind fun y1=>
 some (I.not y1)
def my(I:Pr)(M:Md)(n:Nat)(a0:ag)(a1:ag):Option Bool:=
 some (I.pick (I.seq a0.head a1.head) (I.aN a0.kids a1.kids) false)
def gU(I:Pr)(M:Md)(n:Nat)(a0:List ag)(aV:ag)(n1:Int)(k:Int→Option Int)(self:Int→Option Int)(z2:Int):Option Int:=
 bif (I.aU z2 n1)then
  (gI a0 z2).bind fun x3=>
  (my I M n x3 aV).bind fun y4=>
  bif y4 then
  some z2
  else
  self (I.wrap .i64 (I.add z2 1))
 else
  k z2
def eB(I:Pr)(M:Md)(n:Nat)(a0:List ag)(aV:ag):Option Int:=
 (some (au a0)).bind fun n1=>
 iter (gU I M n a0 aV n1 (fun z5=>
  some (-1))) n 0
def mw(I:Pr)(M:Md)(n:Nat)(a0:ag)(a1:ag):Option Bool:=
 some (I.pick (I.seq a0.head a1.head) (I.aN a0.kids a1.kids) false)
def gT(I:Pr)(M:Md)(n:Nat)(a0:List ag)(aV:ag)(n1:Int)(k:Int→Option Int)(self:Int→Option Int)(z2:Int):Option Int:=
 bif (I.aU z2 n1)then
  (gI a0 z2).bind fun x3=>
  (mw I M n x3 aV).bind fun y4=>
  bif y4 then
  some z2
  else
  self (I.wrap .i64 (I.add z2 1))
 else
  k z2
def ez(I:Pr)(M:Md)(n:Nat)(a0:List ag)(aV:ag):Option Int:=
 (some (au a0)).bind fun n1=>
 iter (gT I M n a0 aV n1 (fun z5=>
  some (-1))) n 0
def im(I:Pr)(M:Md)(n:Nat)(a0:ag)(a1:aj):Option Bool:=
 (eB I M n a1.af a0).bind fun y1=>
 (Ej a1.af (I.wrap .i64 (I.add y1 1)) (au a1.af)).bind fun l2=>
 (ez I M n l2 a0).bind fun y3=>
 some (I.rG 0 y3)
def gV(I:Pr)(M:Md)(n:Nat)(a0:List ag)(aV:aj)(n1:Int)(k:Int→Option Int)(self:Int→Option Int)(z2:Int):Option Int:=
 bif (I.aU z2 n1)then
  (gI a0 z2).bind fun x3=>
  (im I M n x3 (⟨aV.name,aV.arity,aV.af⟩:aj)).bind fun y4=>
  bif y4 then
  some z2
  else
  self (I.wrap .i64 (I.add z2 1))
 else
  k z2
def iO(I:Pr)(M:Md)(n:Nat)(a0:List ag)(aV:aj):Option Int:=
 (some (au a0)).bind fun n1=>
 iter (gV I M n a0 aV n1 (fun z5=>
  some (-1))) n 0
def cK(I:Pr)(M:Md)(n:Nat)(a0:List ag)(aV:aj):Option Bool:=
 (iO I M n a0 (⟨aV.name,aV.arity,aV.af⟩:aj)).bind fun y1=>
 some (I.rG 0 y1)
def tG(I:Pr)(M:Md)(n:Nat)(a0:aj):Option Int:=
 (some (au a0.af)).bind fun n1=>
 (cL (I.pick (I.aU n1 1) true (I.aU 6 n1)) false (jq I M n a0.af) default).bind fun y2=>
 bif (I.pick (I.pick (I.aU n1 1) true (I.aU 6 n1)) true (I.not y2))then
 some 2
 else
 (cL (I.pick (I.aU a0.arity 0) true (I.aU 4 a0.arity)) false (jo I M n a0.af) default).bind fun y3=>
 bif (I.pick (I.pick (I.aU a0.arity 0) true (I.aU 4 a0.arity)) true (I.not y3))then
  some 3
 else
  (nn I M n a0.name).bind fun y4=>
  (cL (I.not y4) false (jn I M n a0.af) default).bind fun y5=>
  bif (I.pick (I.not y4) true (I.not y5))then
  some 4
  else
  (dM I M n a0.af (⟨a0.name,a0.arity,a0.af⟩:aj)).bind fun y6=>
  bif y6 then
   some 7
  else
   (cL (I.aN a0.arity 0) true (jm I M n a0.af) default).bind fun y7=>
   bif (I.pick (I.aN a0.arity 0) (I.not y7) false)then
   some 7
   else
   (cK I M n a0.af (⟨a0.name,a0.arity,a0.af⟩:aj)).bind fun y8=>
   bif y8 then
    some 5
   else
    some 0
def mz(I:Pr)(M:Md)(n:Nat)(a0:aj)(a1:ByteArray):Option Bool:=
 some (I.seq a0.name a1)
def iF(I:Pr)(M:Md)(n:Nat)(a0:List aj)(aV:ByteArray)(n1:Int)(k:Int→Option Int)(self:Int→Option Int)(z2:Int):Option Int:=
 bif (I.aU z2 n1)then
  (gI a0 z2).bind fun x3=>
  (mz I M n x3 aV).bind fun y4=>
  bif y4 then
  some z2
  else
  self (I.wrap .i64 (I.add z2 1))
 else
  k z2
def eV(I:Pr)(M:Md)(n:Nat)(a0:List aj)(aV:ByteArray):Option Int:=
 (some (au a0)).bind fun n1=>
 iter (iF I M n a0 aV n1 (fun z5=>
  some (-1))) n 0
def cT(I:Pr)(M:Md)(n:Nat)(a0:ByteArray)(a1:ai):Option Int:=
 (eV I M n a1.blocks a0).bind fun y1=>
 some y1
def zG(I:Pr)(M:Md)(n:Nat)(a0:Int)(a1:Int):Option Bool:=
 some (I.pick (I.rG 0 a0) (I.aU a0 a1) false)
def jZ(I:Pr)(M:Md)(n:Nat)(a0:Int)(aV:Int):Option Bool:=
 (zG I M n a0 aV).bind fun y1=>
 some (I.not y1)
def jN(I:Pr)(M:Md)(n:Nat)(a0:List Int)(p9:Int)(n1:Int)(k:Int→Option Int)(self:Int→Option Int)(z2:Int):Option Int:=
 bif (I.aU z2 n1)then
  (gI a0 z2).bind fun x3=>
  (jZ I M n x3 p9).bind fun y4=>
  bif y4 then
  some z2
  else
  self (I.wrap .i64 (I.add z2 1))
 else
  k z2
def la(I:Pr)(M:Md)(n:Nat)(a0:List Int)(p9:Int):Option Int:=
 (some (au a0)).bind fun n1=>
 iter (jN I M n a0 p9 n1 (fun z5=>
  some (-1))) n 0
def eE(I:Pr)(M:Md)(n:Nat)(a0:List Int)(p9:Int):Option Bool:=
 (la I M n a0 p9).bind fun y1=>
 some (I.rG 0 y1)
def iL(I:Pr)(M:Md)(n:Nat)(a0:List Int)(aV:Int):Option Bool:=
 (eE I M n a0 aV).bind fun y1=>
 some (I.not y1)
def mv(I:Pr)(M:Md)(n:Nat)(a0:Int)(a1:List Bool):Option Bool:=
 (gI a1 a0).bind fun x1=>
 some x1
def jM(I:Pr)(M:Md)(n:Nat)(a0:List Int)(aV:List Bool)(n1:Int)(k:Int→Option Int)(self:Int→Option Int)(z2:Int):Option Int:=
 bif (I.aU z2 n1)then
  (gI a0 z2).bind fun x3=>
  (mv I M n x3 aV).bind fun y4=>
  bif y4 then
  some z2
  else
  self (I.wrap .i64 (I.add z2 1))
 else
  k z2
def k8(I:Pr)(M:Md)(n:Nat)(a0:List Int)(aV:List Bool):Option Int:=
 (some (au a0)).bind fun n1=>
 iter (jM I M n a0 aV n1 (fun z5=>
  some (-1))) n 0
def eD(I:Pr)(M:Md)(n:Nat)(a0:List Int)(aV:List Bool):Option Bool:=
 (k8 I M n a0 aV).bind fun y1=>
 some (I.rG 0 y1)
def oh(I:Pr)(M:Md)(n:Nat)(a0:List aI)(n1:Int)(k:(List Bool)×Int→Option (List Bool))(self:(List Bool)×Int→Option (List Bool))(st:(List Bool)×Int):Option (List Bool):=
 match st with
 |(l2,z3)=>
 bif (I.aU z3 n1)then
  (gI a0 z3).bind fun x4=>
  (cL (I.aN x4.kind 5) false (cL (I.aN x4.kind 3) true (eD I M n x4.args l2) default) default).bind fun y5=>
  (aL 1 l2 (I.pick (I.aN x4.kind 5) true (I.pick (I.aN x4.kind 3) y5 false))).bind fun l6=>
  self (l6,(I.wrap .i64 (I.add z3 1)))
 else
  k (l2,z3)
def wy(I:Pr)(M:Md)(n:Nat)(a0:List aI):Option (List Bool):=
 (some (au a0)).bind fun n1=>
 iter (oh I M n a0 n1 (fun(l7,z8)=>
  some l7)) n ([],0)
def pc(I:Pr)(M:Md)(n:Nat)(a0:Int)(a1:List Bool):Option Bool:=
 (gI a1 a0).bind fun x1=>
 some x1
def jL(I:Pr)(M:Md)(n:Nat)(a0:List Int)(aV:List Bool)(n1:Int)(k:Int→Option Int)(self:Int→Option Int)(z2:Int):Option Int:=
 bif (I.aU z2 n1)then
  (gI a0 z2).bind fun x3=>
  (pc I M n x3 aV).bind fun y4=>
  bif y4 then
  some z2
  else
  self (I.wrap .i64 (I.add z2 1))
 else
  k z2
def kZ(I:Pr)(M:Md)(n:Nat)(a0:List Int)(aV:List Bool):Option Int:=
 (some (au a0)).bind fun n1=>
 iter (jL I M n a0 aV n1 (fun z5=>
  some (-1))) n 0
def eC(I:Pr)(M:Md)(n:Nat)(a0:List Int)(aV:List Bool):Option Bool:=
 (kZ I M n a0 aV).bind fun y1=>
 some (I.rG 0 y1)
def zH(I:Pr)(M:Md)(n:Nat)(a0:ai)(a1:aj)(a2:ag)(a3:Int):Option Int:=
 (gI a2.ops a3).bind fun x1=>
 (FZ ([]:List (Int×Int)) 1 (I.wrap .i64 (I.sub a1.arity 1))).bind fun l2=>
 (FZ l2 2 (I.wrap .i64 (I.sub a2.kids 1))).bind fun l3=>
 (some (F4 l3 x1.kind 0)).bind fun x4=>
 bif (I.pick (I.aU x1.kind 1) true (I.aU 5 x1.kind))then
 some 3
 else
 (cL (I.pick (I.pick (I.aN x1.kind 1) true (I.aN x1.kind 2)) (I.not (I.seq x1.name (⟨#[]⟩:ByteArray))) false) false (cL (I.not (I.pick (I.aN x1.kind 1) true (I.aN x1.kind 2))) true (nn I M n x1.name) default) default).bind fun y5=>
 bif (I.pick (I.pick (I.pick (I.aN x1.kind 1) true (I.aN x1.kind 2)) (I.not (I.seq x1.name (⟨#[]⟩:ByteArray))) false) true (I.pick (I.not (I.pick (I.aN x1.kind 1) true (I.aN x1.kind 2))) (I.not y5) false))then
  some 4
 else
  bif (I.pick (I.aU x1.num 0) true (I.aU x4 x1.num))then
  some 1
  else
  (some (au x1.args)).bind fun n6=>
  bif (I.pick (I.pick (I.pick (I.aN x1.kind 1) true (I.aN x1.kind 2)) (I.aU 0 n6) false) true (I.pick (I.aN x1.kind 3) (I.aU 4 n6) false))then
   some 2
  else
   (iL I M n x1.args a3).bind fun y7=>
   (cL (I.not y7) false (cL (I.pick (I.aN x1.kind 4) true (I.aN x1.kind 5)) true (cT I M n x1.name (⟨a0.blocks⟩:ai)) default) default).bind fun y8=>
   bif (I.pick (I.not y7) true (I.pick (I.pick (I.aN x1.kind 4) true (I.aN x1.kind 5)) (I.aU y8 0) false))then
   some 1
   else
   bif (I.not (I.pick (I.aN x1.kind 4) true (I.aN x1.kind 5)))then
    some 0
   else
    (Ej a2.ops 0 a3).bind fun l9=>
    (wy I M n l9).bind fun qT=>
    (cT I M n x1.name (⟨a0.blocks⟩:ai)).bind fun rJ=>
    (gI a0.blocks rJ).bind fun tK=>
    (cL (I.not (I.aN n6 tK.arity)) false (eC I M n x1.args qT) default).bind fun ov=>
    bif (I.pick (I.not (I.aN n6 tK.arity)) true ov)then
    some 7
    else
    some 0
def mA(I:Pr)(M:Md)(n:Nat)(a0:ai)(Qb:Int)(uk:aj)(qf:ag)(k:Int→Option Int)(self:Int→Option Int)(ey:Int):Option Int:=
 bif (I.aU ey Qb)then
  (zH I M n (⟨a0.blocks⟩:ai) uk qf ey).bind fun Qa=>
  bif (I.not (I.aN Qa 0))then
  some Qa
  else
  self (I.wrap .i64 (I.add ey 1))
 else
  k ey
def mB(I:Pr)(M:Md)(n:Nat)(a0:ai)(Xc:Int)(uk:aj)(k:Int→Option Int)(self:Int→Option Int)(jV:Int):Option Int:=
 bif (I.aU jV Xc)then
  (gI uk.af jV).bind fun qf=>
  (some (au qf.ops)).bind fun Qb=>
  iter (mA I M n a0 Qb uk qf (fun z21=>
   (some (au qf.ops)).bind fun S2=>
   bif (I.pick (I.aU qf.result 0) true (I.rG S2 qf.result))then
   some 1
   else
   self (I.wrap .i64 (I.add jV 1)))) n 0
 else
  k jV
def mC(I:Pr)(M:Md)(n:Nat)(a0:ai)(U7:Int)(k:Int→Option Int)(self:Int→Option Int)(nz:Int):Option Int:=
 bif (I.aU nz U7)then
  (gI a0.blocks nz).bind fun uk=>
  (some (au uk.af)).bind fun Xc=>
  iter (mB I M n a0 Xc uk (fun z23=>
   self (I.wrap .i64 (I.add nz 1)))) n 0
 else
  k nz
def mD(I:Pr)(M:Md)(n:Nat)(a0:ai)(n6:Int)(k:Int→Option Int)(self:Int→Option Int)(z7:Int):Option Int:=
 bif (I.aU z7 n6)then
  (gI a0.blocks z7).bind fun x8=>
  (
  (cT I M n x8.name (⟨a0.blocks⟩:ai)).bind fun qT=>
  some (I.aU qT z7)).bind fun j9=>
  bif j9 then
  some 5
  else
  self (I.wrap .i64 (I.add z7 1))
 else
  k z7
def mE(I:Pr)(M:Md)(n:Nat)(a0:ai)(n1:Int)(k:Int→Option Int)(self:Int→Option Int)(z2:Int):Option Int:=
 bif (I.aU z2 n1)then
  (gI a0.blocks z2).bind fun x3=>
  (tG I M n x3).bind fun y4=>
  bif (I.not (I.aN y4 0))then
  some y4
  else
  self (I.wrap .i64 (I.add z2 1))
 else
  k z2
def dk(I:Pr)(M:Md)(n:Nat)(a0:ai):Option Int:=
 (some (au a0.blocks)).bind fun n1=>
 bif (I.pick (I.aU n1 1) true (I.aU 12 n1))then
 some 2
 else
 iter (mE I M n a0 n1 (fun z5=>
  (some (au a0.blocks)).bind fun n6=>
  iter (mD I M n a0 n6 (fun Fq=>
   (some (au a0.blocks)).bind fun U7=>
   iter (mC I M n a0 U7 (fun Qy=>
    some 0)) n 0)) n 0)) n 0
def fo(I:Pr)(M:Md)(n:Nat)(a0:aI):Option Bool:=
 some (I.pick (I.aN a0.kind 4) true (I.aN a0.kind 5))
def uE(I:Pr)(M:Md)(n:Nat)(a0:ag)(l2:List Bool)(n7:Int)(x5:aI)(k:(List Bool)×Int→Option (List Bool))(self:(List Bool)×Int→Option (List Bool))(st:(List Bool)×Int):Option (List Bool):=
 match st with
 |(l8,z9)=>
 bif (I.aU z9 n7)then
  (gI x5.args z9).bind fun vX=>
  (EZ I M n (⟨a0.head,a0.kids,a0.ops,a0.result⟩:ag) (M.ln l2) n l8 vX).bind fun IB=>
  self (IB,(I.wrap .i64 (I.add z9 1)))
 else
  k (l8,z9)
def uF(I:Pr)(M:Md)(n:Nat)(a0:ag)(l2:List Bool)(n1:Int)(k:(List Bool)×Int→Option (List Bool))(self:(List Bool)×Int→Option (List Bool))(st:(List Bool)×Int):Option (List Bool):=
 match st with
 |(l3,z4)=>
 bif (I.aU z4 n1)then
  (gI a0.ops z4).bind fun x5=>
  (fo I M n x5).bind fun y6=>
  bif y6 then
  (some (au x5.args)).bind fun n7=>
  iter (uE I M n a0 l2 n7 x5 (fun(iJ,nz)=>
   self (iJ,(I.wrap .i64 (I.add z4 1))))) n (l3,0)
  else
  self (l3,(I.wrap .i64 (I.add z4 1)))
 else
  k (l3,z4)
def yM(I:Pr)(M:Md)(n:Nat)(a0:ag):Option (List Bool):=
 (some (au a0.ops)).bind fun n1=>
 (xd 1 n1 false).bind fun l2=>
 iter (uF I M n a0 l2 n1 (fun(Tk,uh)=>
  (eu (M.ln l2) Tk).bind fun u16=>
  some Tk)) n (l2,0)
def dc(I:Pr)(M:Md)(n:Nat)(nu:List Int)(a1:List Int)(n1:Int)(k:Int×(List Int)→Option (List Int))(self:Int×(List Int)→Option (List Int))(st:Int×(List Int)):Option (List Int):=
 match st with
 |(z2,l3)=>
 bif (I.aU z2 n1)then
  (gI a1 z2).bind fun x4=>
  (gI nu x4).bind fun x5=>
  (aL 8 l3 x5).bind fun l6=>
  self ((I.wrap .i64 (I.add z2 1)),l6)
 else
  k (z2,l3)
def bu(I:Pr)(M:Md)(n:Nat)(yj:ByteArray)(yi:Int)(Ey:List aI)(yh:Int)(nu:List Int)(a1:List Int):Option (List Int):=
 (some (au a1)).bind fun n1=>
 iter (dc I M n nu a1 n1 (fun(z7,l8)=>
  some l8)) n (0,[])
def tO(I:Pr)(M:Md)(n:Nat)(W9:Int)(dY:ag)(Gz:List Bool)(k:(List aI)×(List Int)×Int→Option (ai×Int))(self:(List aI)×(List Int)×Int→Option (ai×Int))(st:(List aI)×(List Int)×Int):Option (ai×Int):=
 match st with
 |(HO,F6,Cl)=>
 bif (I.aU Cl W9)then
  (gI dY.ops Cl).bind fun oV=>
  (
  (cL (I.aN oV.kind 4) true (gI Gz Cl) default).bind fun x38=>
  bif (I.pick (I.aN oV.kind 4) (I.not x38) false)then
   (
   (bu I M n dY.head dY.kids HO 0 F6 oV.args).bind fun P9=>
   (some (au P9)).bind fun n42=>
   (xd 8 n42 0).bind fun HN=>
   (some (kH (M.ln HN) P9 HN)).bind fun E8=>
   (some (mT (M.ln HN) P9)).bind fun JH=>
   bif (I.aN n42 0)then
    (aL 56 HO (⟨5,oV.name,oV.num,[]⟩:aI)).bind fun l46=>
    (some (au l46)).bind fun n47=>
    some ((I.wrap .i64 (I.sub n47 1)),l46)
   else
    (eu (M.ln HN) E8).bind fun u48=>
    (aL 56 HO (⟨5,oV.name,oV.num,E8⟩:aI)).bind fun Tg=>
    (some (au Tg)).bind fun W8=>
    some ((I.wrap .i64 (I.sub W8 1)),Tg)).bind fun(BV,j40)=>
   (aL 8 F6 BV).bind fun U9=>
   some (j40,U9)
  else
   (
   (bu I M n dY.head dY.kids HO 0 F6 oV.args).bind fun UT=>
   (some (au UT)).bind fun n55=>
   (xd 8 n55 0).bind fun Pn=>
   (some (kH (M.ln Pn) UT Pn)).bind fun Tf=>
   (some (mT (M.ln Pn) UT)).bind fun S1=>
   bif (I.aN n55 0)then
    (aL 56 HO (⟨oV.kind,oV.name,oV.num,[]⟩:aI)).bind fun JU=>
    (some (au JU)).bind fun n60=>
    some ((I.wrap .i64 (I.sub n60 1)),JU)
   else
    (eu (M.ln Pn) Tf).bind fun u61=>
    (aL 56 HO (⟨oV.kind,oV.name,oV.num,Tf⟩:aI)).bind fun Mn=>
    (some (au Mn)).bind fun Mi=>
    some ((I.wrap .i64 (I.sub Mi 1)),Mn)).bind fun(j52,j53)=>
   (aL 8 F6 j52).bind fun Pm=>
   some (j53,Pm)).bind fun(Py,Fa)=>
  self (Py,Fa,(I.wrap .i64 (I.add Cl 1)))
 else
  k (HO,F6,Cl)
def tP(I:Pr)(M:Md)(n:Nat)(a0:ai)(l9:List aj)(DJ:Int)(ym:aj)(eg:Int)(k:(List Bool)×(List aj)×Int→Option (ai×Int))(self:(List Bool)×(List aj)×Int→Option (ai×Int))(st:(List Bool)×(List aj)×Int):Option (ai×Int):=
 match st with
 |(tT,qF,ey)=>
 bif (I.aU ey DJ)then
  (gI ym.af ey).bind fun dY=>
  (some (List.replicate 2 (0:Int))).bind fun u9=>
  (mU 2 u9).bind fun Vv=>
  (mU 2 ([eg,ey])).bind fun OL=>
  (gN 2 0).bind fun Xs=>
  (gK ([eg,ey]) Xs).bind fun zP=>
  (gI a0.blocks zP).bind fun x26=>
  (gN 2 1).bind fun k27=>
  (gK ([eg,ey]) k27).bind fun x28=>
  (gI x26.af x28).bind fun qc=>
  (yM I M n qc).bind fun Gz=>
  (some (au dY.ops)).bind fun W9=>
  iter (tO I M n W9 dY Gz (fun(Te,NU,z67)=>
   (gI NU dY.result).bind fun Vq=>
   (gN 2 0).bind fun Va=>
   (gK ([eg,ey]) Va).bind fun Vp=>
   (gN (M.ln l9) Vp).bind fun k71=>
   (gK qF k71).bind fun Zq=>
   (aL 56 Zq.af (⟨dY.head,dY.kids,Te,Vq⟩:ag)).bind fun Td=>
   (fU qF k71 (⟨Zq.name,Zq.arity,Td⟩:aj)).bind fun Xk=>
   self (Gz,Xk,(I.wrap .i64 (I.add ey 1))))) n ([],[],0)
 else
  k (tT,qF,ey)
def tQ(I:Pr)(M:Md)(n:Nat)(a0:ai)(l9:List aj)(ub:Int)(k:(List Bool)×(List aj)×Int→Option (ai×Int))(self:(List Bool)×(List aj)×Int→Option (ai×Int))(st:(List Bool)×(List aj)×Int):Option (ai×Int):=
 match st with
 |(iJ,wI,eg)=>
 bif (I.aU eg ub)then
  (gI a0.blocks eg).bind fun ym=>
  (some (au ym.af)).bind fun DJ=>
  iter (tP I M n a0 l9 DJ ym eg (fun(Xj,Xi,z77)=>
   self (Xj,Xi,(I.wrap .i64 (I.add eg 1))))) n (iJ,wI,0)
 else
  k (iJ,wI,eg)
def tR(I:Pr)(M:Md)(n:Nat)(a0:ai)(n2:Int)(k:(List aj)×Int→Option (ai×Int))(self:(List aj)×Int→Option (ai×Int))(st:(List aj)×Int):Option (ai×Int):=
 match st with
 |(l5,z6)=>
 bif (I.aU z6 n2)then
  (gI a0.blocks z6).bind fun x7=>
  (aL 48 l5 (⟨x7.name,x7.arity,[]⟩:aj)).bind fun l8=>
  self (l8,(I.wrap .i64 (I.add z6 1)))
 else
  k (l5,z6)
def qZ(I:Pr)(M:Md)(n:Nat)(a0:ai):Option (ai×Int):=
 (dk I M n a0).bind fun y1=>
 bif (I.not (I.aN y1 0))then
 some ((⟨[]⟩:ai),y1)
 else
 (some (au a0.blocks)).bind fun n2=>
 bif (I.aU 0 n2)then
  (gI a0.blocks 0).bind fun x3=>
  (aL 48 [] (⟨x3.name,x3.arity,[]⟩:aj)).bind fun l4=>
  iter (tR I M n a0 n2 (fun(l9,yp)=>
   (some (au a0.blocks)).bind fun ub=>
   iter (tQ I M n a0 l9 ub (fun(HL,ZR,z80)=>
    (eu (M.ln l9) ZR).bind fun u81=>
    some ((⟨ZR⟩:ai),0))) n ([],l9,0))) n (l4,(I.wrap .i64 (I.add 0 1)))
 else
  none
def ma(I:Pr)(M:Md)(n:Nat)(a0:aj)(a1:ByteArray):Option Bool:=
 some (I.seq a0.name a1)
def iE(I:Pr)(M:Md)(n:Nat)(a0:List aj)(aV:ByteArray)(n1:Int)(k:Int→Option Int)(self:Int→Option Int)(z2:Int):Option Int:=
 bif (I.aU z2 n1)then
  (gI a0 z2).bind fun x3=>
  (ma I M n x3 aV).bind fun y4=>
  bif y4 then
  some z2
  else
  self (I.wrap .i64 (I.add z2 1))
 else
  k z2
def eU(I:Pr)(M:Md)(n:Nat)(a0:List aj)(aV:ByteArray):Option Int:=
 (some (au a0)).bind fun n1=>
 iter (iE I M n a0 aV n1 (fun z5=>
  some (-1))) n 0
def jC(I:Pr)(M:Md)(n:Nat)(a0:ai)(a1:ByteArray):Option aj:=
 (eU I M n a0.blocks a1).bind fun y1=>
 (gI a0.blocks y1).bind fun x2=>
 some x2
def pJ(I:Pr)(M:Md)(n:Nat)(a0:aI):Option Bool:=
 (fo I M n a0).bind fun y1=>
 some (I.not y1)
def fm(I:Pr)(M:Md)(n:Nat)(a0:aI):Option Bool:=
 (pJ I M n a0).bind fun y1=>
 some (I.not y1)
def kb(I:Pr)(M:Md)(n:Nat)(a0:List aI)(n1:Int)(k:Int→Option Int)(self:Int→Option Int)(z2:Int):Option Int:=
 bif (I.aU z2 n1)then
  (gI a0 z2).bind fun x3=>
  (fm I M n x3).bind fun y4=>
  bif y4 then
  some z2
  else
  self (I.wrap .i64 (I.add z2 1))
 else
  k z2
def gw(I:Pr)(M:Md)(n:Nat)(a0:List aI):Option Int:=
 (some (au a0)).bind fun n1=>
 iter (kb I M n a0 n1 (fun z5=>
  some (-1))) n 0
def eW(I:Pr)(M:Md)(n:Nat)(a0:List aI):Option Bool:=
 (gw I M n a0).bind fun y1=>
 some (I.rG 0 y1)
def kS(I:Pr)(M:Md)(n:Nat)(a0:List aI):Option Bool:=
 (eW I M n a0).bind fun y1=>
 some (I.not y1)
def lZ(I:Pr)(M:Md)(n:Nat)(a0:ag):Option Bool:=
 (kS I M n a0.ops).bind fun y1=>
 some y1
def fk(I:Pr)(M:Md)(n:Nat)(a0:aj):Option Bool:=
 (some (au a0.af)).bind fun n1=>
 (cL (I.aN n1 1) true (gI a0.af 0) default).bind fun x2=>
 (cL (I.pick (I.aN n1 1) (I.seq x2.head (⟨#[]⟩:ByteArray)) false) true (gI a0.af 0) default).bind fun x3=>
 (cL (I.pick (I.aN n1 1) (I.seq x2.head (⟨#[]⟩:ByteArray)) false) true (lZ I M n (⟨x3.head,x3.kids,x3.ops,x3.result⟩:ag)) default).bind fun y4=>
 some (I.pick (I.pick (I.aN n1 1) (I.seq x2.head (⟨#[]⟩:ByteArray)) false) y4 false)
def jf(I:Pr)(M:Md)(n:Nat)(a0:List Int)(n1:Int)(k:Int×Int→Option Int)(self:Int×Int→Option Int)(st:Int×Int):Option Int:=
 match st with
 |(z2,z3)=>
 bif (I.aU z3 n1)then
  (gI a0 z3).bind fun x4=>
  self ((I.wrap .i64 (I.add z2 x4)),(I.wrap .i64 (I.add z3 1)))
 else
  k (z2,z3)
def gF(I:Pr)(M:Md)(n:Nat)(a0:List Int):Option Int:=
 (some (au a0)).bind fun n1=>
 iter (jf I M n a0 n1 (fun(z5,z6)=>
  some z5)) n (0,0)
def lW(I:Pr)(M:Md)(n:Nat)(nu:List Int)(a1:List Int)(n1:Int)(k:Int×(List Int)→Option (List Int))(self:Int×(List Int)→Option (List Int))(st:Int×(List Int)):Option (List Int):=
 match st with
 |(z2,l3)=>
 bif (I.aU z2 n1)then
  (gI a1 z2).bind fun x4=>
  (gI nu x4).bind fun x5=>
  (aL 8 l3 x5).bind fun l6=>
  self ((I.wrap .i64 (I.add z2 1)),l6)
 else
  k (z2,l3)
def fh(I:Pr)(M:Md)(n:Nat)(yj:ByteArray)(yi:Int)(yh:Int)(nu:List Int)(a1:List Int):Option (List Int):=
 (some (au a1)).bind fun n1=>
 iter (lW I M n nu a1 n1 (fun(z7,l8)=>
  some l8)) n (0,[])
def lV(I:Pr)(M:Md)(n:Nat)(nu:List Int)(a1:List Int)(n1:Int)(k:Int×(List Int)→Option (List Int))(self:Int×(List Int)→Option (List Int))(st:Int×(List Int)):Option (List Int):=
 match st with
 |(z2,l3)=>
 bif (I.aU z2 n1)then
  (gI a1 z2).bind fun x4=>
  (gI nu x4).bind fun x5=>
  (aL 8 l3 x5).bind fun l6=>
  self ((I.wrap .i64 (I.add z2 1)),l6)
 else
  k (z2,l3)
def jd(I:Pr)(M:Md)(n:Nat)(yj:ByteArray)(yi:Int)(Ey:List aI)(yh:Int)(nu:List Int)(yg:ai)(a1:List Int):Option (List Int):=
 (some (au a1)).bind fun n1=>
 iter (lV I M n nu a1 n1 (fun(z7,l8)=>
  some l8)) n (0,[])
def cG(I:Pr)(M:Md)(n:Nat)(s7:List aI)(n69:Int)(wB:List Int)(k:(List aI)×(List Int)×Int→Option ((List aI)×(List Int)))(self:(List aI)×(List Int)×Int→Option ((List aI)×(List Int)))(st:(List aI)×(List Int)×Int):Option ((List aI)×(List Int)):=
 match st with
 |(Mm,HM,Nh)=>
 bif (I.aU Nh n69)then
  (gI s7 Nh).bind fun BL=>
  bif (I.aN BL.kind 1)then
  (gI wB BL.num).bind fun Zp=>
  (aL 8 HM Zp).bind fun Xj=>
  self (Mm,Xj,(I.wrap .i64 (I.add Nh 1)))
  else
  bif (I.aN BL.kind 2)then
   (gI wB 0).bind fun Zo=>
   (gI Mm Zo).bind fun x77=>
   (gI x77.args BL.num).bind fun x78=>
   (aL 8 HM x78).bind fun ZR=>
   self (Mm,ZR,(I.wrap .i64 (I.add Nh 1)))
  else
   (
   (fh I M n ⟨#[]⟩ 0 0 HM BL.args).bind fun y82=>
   (some (au y82)).bind fun U3=>
   (xd 8 U3 0).bind fun zQ=>
   (some (kH (M.ln zQ) y82 zQ)).bind fun Bj=>
   (some (mT (M.ln zQ) y82)).bind fun n86=>
   bif (I.aN U3 0)then
    (aL 56 Mm (⟨BL.kind,BL.name,BL.num,[]⟩:aI)).bind fun l87=>
    (some (au l87)).bind fun n88=>
    some ((I.wrap .i64 (I.sub n88 1)),l87)
   else
    (eu (M.ln zQ) Bj).bind fun u89=>
    (aL 56 Mm (⟨BL.kind,BL.name,BL.num,Bj⟩:aI)).bind fun l90=>
    (some (au l90)).bind fun n91=>
    some ((I.wrap .i64 (I.sub n91 1)),l90)).bind fun(j80,j81)=>
   (aL 8 HM j80).bind fun l92=>
   self (j81,l92,(I.wrap .i64 (I.add Nh 1)))
 else
  k (Mm,HM,Nh)
def fO(I:Pr)(M:Md)(n:Nat)(s7:List aI)(W8:Int)(k:Int×Int→Option ((List aI)×(List Int)))(self:Int×Int→Option ((List aI)×(List Int)))(st:Int×Int):Option ((List aI)×(List Int)):=
 match st with
 |(Qx,P7)=>
 bif (I.aU P7 W8)then
  (gI s7 P7).bind fun x53=>
  bif (I.aN x53.kind 3)then
  self ((I.wrap .i64 (I.add Qx 1)),(I.wrap .i64 (I.add P7 1)))
  else
  self (Qx,(I.wrap .i64 (I.add P7 1)))
 else
  k (Qx,P7)
def jX(I:Pr)(M:Md)(n:Nat)(k:Unit→Option ((List aI)×(List Int)))(self:Unit→Option ((List aI)×(List Int)))(st:Unit):Option ((List aI)×(List Int)):=
 match st with
 |()=>
 k ()
def fN(I:Pr)(M:Md)(n:Nat)(k:Unit→Option ((List aI)×(List Int)))(self:Unit→Option ((List aI)×(List Int)))(st:Unit):Option ((List aI)×(List Int)):=
 match st with
 |()=>
 k ()
def cH(I:Pr)(M:Md)(n:Nat)(a0:ai)(aV:ai)(Xa:Int)(dY:ag)(eg:Int)(ey:Int)(k:(List aI)×(List Int)×Int→Option ai)(self:(List aI)×(List Int)×Int→Option ai)(st:(List aI)×(List Int)×Int):Option ai:=
 match st with
 |(oQ,sV,yo)=>
 bif (I.aU yo Xa)then
  (gI dY.ops yo).bind fun fw=>
  (
  (jd I M n dY.head dY.kids oQ 0 sV (⟨aV.blocks⟩:ai) fw.args).bind fun wB=>
  (fo I M n fw).bind fun y34=>
  bif y34 then
   (
   (jC I M n (⟨aV.blocks⟩:ai) fw.name).bind fun yq=>
   (gI yq.af 0).bind fun Lb=>
   (fk I M n yq).bind fun y42=>
   some (y42,Lb.head,Lb.kids,Lb.ops,Lb.result)).bind fun(J0,Py,Fa,s7,BV)=>
   (gN 2 0).bind fun k43=>
   (gK ([eg,ey]) k43).bind fun IV=>
   (gI a0.blocks IV).bind fun x45=>
   (gN 2 1).bind fun k46=>
   (gK ([eg,ey]) k46).bind fun La=>
   (gI x45.af La).bind fun Zr=>
   (some (au Zr.ops)).bind fun Pj=>
   (some (au s7)).bind fun W8=>
   iter (fO I M n s7 W8 (fun(z54,z55)=>
    (some (au oQ)).bind fun ZM=>
    (cL (I.not J0) false (gF I M n ([ZM,z54,(I.wrap .i64 (I.sub (I.wrap .i64 (I.sub Pj yo)) 1))])) default).bind fun y57=>
    bif (I.pick (I.not J0) true (I.aU 60 y57))then
    (some (au wB)).bind fun S1=>
    (xd 8 S1 0).bind fun JU=>
    (some (kH (M.ln JU) wB JU)).bind fun NV=>
    (some (mT (M.ln JU) wB)).bind fun W7=>
    bif (I.aN S1 0)then
     (aL 56 oQ (⟨fw.kind,fw.name,fw.num,[]⟩:aI)).bind fun Mn=>
     (some (au Mn)).bind fun Mi=>
     (aL 8 sV (I.wrap .i64 (I.sub Mi 1))).bind fun Pm=>
     some (Mn,Pm)
    else
     (eu (M.ln JU) NV).bind fun u65=>
     (aL 56 oQ (⟨fw.kind,fw.name,fw.num,NV⟩:aI)).bind fun NU=>
     (some (au NU)).bind fun n67=>
     (aL 8 sV (I.wrap .i64 (I.sub n67 1))).bind fun l68=>
     some (NU,l68)
    else
    (some (au s7)).bind fun n69=>
    iter (cG I M n s7 n69 wB (fun(l93,l94,z95)=>
     (gI l94 BV).bind fun x96=>
     (aL 8 sV x96).bind fun l97=>
     some (l93,l97))) n (oQ,[],0))) n (0,0)
  else
   (gN 2 0).bind fun k98=>
   (gK ([eg,ey]) k98).bind fun x99=>
   (gI a0.blocks x99).bind fun aaT=>
   (gN 2 1).bind fun ad6=>
   (gK ([eg,ey]) ad6).bind fun aaS=>
   (gI aaT.af aaS).bind fun aaR=>
   (some (au aaR.ops)).bind fun Ta=>
   iter (fN I M n (fun _=>
    (some (au oQ)).bind fun HJ=>
    (cL (I.not false) false (gF I M n ([HJ,0,(I.wrap .i64 (I.sub (I.wrap .i64 (I.sub Ta yo)) 1))])) default).bind fun aaI=>
    bif (I.pick (I.not false) true (I.aU 60 aaI))then
    (some (au wB)).bind fun Xe=>
    (xd 8 Xe 0).bind fun JY=>
    (some (kH (M.ln JY) wB JY)).bind fun Pt=>
    (some (mT (M.ln JY) wB)).bind fun air=>
    bif (I.aN Xe 0)then
     (aL 56 oQ (⟨fw.kind,fw.name,fw.num,[]⟩:aI)).bind fun JX=>
     (some (au JX)).bind fun S9=>
     (aL 8 sV (I.wrap .i64 (I.sub S9 1))).bind fun adV=>
     some (JX,adV)
    else
     (eu (M.ln JY) Pt).bind fun ahm=>
     (aL 56 oQ (⟨fw.kind,fw.name,fw.num,Pt⟩:aI)).bind fun Xo=>
     (some (au Xo)).bind fun S8=>
     (aL 8 sV (I.wrap .i64 (I.sub S8 1))).bind fun adU=>
     some (Xo,adU)
    else
    iter (jX I M n (fun _=>
     none)) n ())) n ()).bind fun(Ts,j32)=>
  self (Ts,j32,(I.wrap .i64 (I.add yo 1)))
 else
  k (oQ,sV,yo)
def dq(I:Pr)(M:Md)(n:Nat)(a0:ai)(aV:ai)(l9:List aj)(DJ:Int)(ym:aj)(eg:Int)(k:(List Int)×(List aj)×Int→Option ai)(self:(List Int)×(List aj)×Int→Option ai)(st:(List Int)×(List aj)×Int):Option ai:=
 match st with
 |(tT,qF,ey)=>
 bif (I.aU ey DJ)then
  (gI ym.af ey).bind fun dY=>
  (some (List.replicate 2 (0:Int))).bind fun u9=>
  (mU 2 u9).bind fun Vv=>
  (mU 2 ([eg,ey])).bind fun OL=>
  (mU 2 ([eg,ey])).bind fun u24=>
  (mU 2 tT).bind fun u25=>
  (some (au dY.ops)).bind fun Xa=>
  iter (cH I M n a0 aV Xa dY eg ey (fun(an6,an5,z120)=>
   (gI an5 dY.result).bind fun aaM=>
   (gN 2 0).bind fun aiP=>
   (gK ([eg,ey]) aiP).bind fun ahh=>
   (gN (M.ln l9) ahh).bind fun ad3=>
   (gK qF ad3).bind fun Vt=>
   (aL 56 Vt.af (⟨dY.head,dY.kids,an6,aaM⟩:ag)).bind fun aiH=>
   (fU qF ad3 (⟨Vt.name,Vt.arity,aiH⟩:aj)).bind fun Pp=>
   self ([eg,ey],Pp,(I.wrap .i64 (I.add ey 1))))) n ([],[],0)
 else
  k (tT,qF,ey)
def dr(I:Pr)(M:Md)(n:Nat)(a0:ai)(aV:ai)(l9:List aj)(ub:Int)(k:(List Int)×(List aj)×Int→Option ai)(self:(List Int)×(List aj)×Int→Option ai)(st:(List Int)×(List aj)×Int):Option ai:=
 match st with
 |(iJ,wI,eg)=>
 bif (I.aU eg ub)then
  (gI a0.blocks eg).bind fun ym=>
  (some (au ym.af)).bind fun DJ=>
  iter (dq I M n a0 aV l9 DJ ym eg (fun(an4,Po,z130)=>
   self (an4,Po,(I.wrap .i64 (I.add eg 1))))) n (iJ,wI,0)
 else
  k (iJ,wI,eg)
def cI(I:Pr)(M:Md)(n:Nat)(a0:ai)(n2:Int)(k:(List aj)×Int→Option ai)(self:(List aj)×Int→Option ai)(st:(List aj)×Int):Option ai:=
 match st with
 |(l5,z6)=>
 bif (I.aU z6 n2)then
  (gI a0.blocks z6).bind fun x7=>
  (aL 48 l5 (⟨x7.name,x7.arity,[]⟩:aj)).bind fun l8=>
  self (l8,(I.wrap .i64 (I.add z6 1)))
 else
  k (l5,z6)
def lY(I:Pr)(M:Md)(n:Nat)(a0:ai)(aV:ai):Option ai:=
 (some (List.replicate 2 (0:Int))).bind fun l1=>
 (some (au a0.blocks)).bind fun n2=>
 bif (I.aU 0 n2)then
 (gI a0.blocks 0).bind fun x3=>
 (aL 48 [] (⟨x3.name,x3.arity,[]⟩:aj)).bind fun l4=>
 iter (cI I M n a0 n2 (fun(l9,yp)=>
  (some (au a0.blocks)).bind fun ub=>
  iter (dr I M n a0 aV l9 ub (fun(Xm,Xl,z133)=>
   (eu (M.ln l9) Xl).bind fun aml=>
   some (⟨Xl⟩:ai))) n (l1,l9,0))) n (l4,(I.wrap .i64 (I.add 0 1)))
 else
 none
def fA(I:Pr)(M:Md)(n:Nat)(a0:ai):Option (ai×Int):=
 (dk I M n a0).bind fun y1=>
 bif (I.not (I.aN y1 0))then
 some ((⟨[]⟩:ai),y1)
 else
 (lY I M n (⟨a0.blocks⟩:ai) (⟨a0.blocks⟩:ai)).bind fun y2=>
 some (y2,0)
def rX(I:Pr)(M:Md)(n:Nat)(n21:Int)(qf:ag)(k:(List aI)×(List Int)×Int→Option ai)(self:(List aI)×(List Int)×Int→Option ai)(st:(List aI)×(List Int)×Int):Option ai:=
 match st with
 |(Qe,xS,Qy)=>
 bif (I.aU Qy n21)then
  (gI qf.ops Qy).bind fun zP=>
  (
  (
   (bu I M n qf.head qf.kids Qe 0 xS zP.args).bind fun Gz=>
   (some (au Gz)).bind fun W9=>
   (xd 8 W9 0).bind fun HO=>
   (some (kH (M.ln HO) Gz HO)).bind fun F6=>
   (some (mT (M.ln HO) Gz)).bind fun n34=>
   bif (I.aN W9 0)then
   (aL 56 Qe (⟨zP.kind,zP.name,zP.num,[]⟩:aI)).bind fun l35=>
   (some (au l35)).bind fun n36=>
   some ((I.wrap .i64 (I.sub n36 1)),l35)
   else
   (eu (M.ln HO) F6).bind fun u37=>
   (aL 56 Qe (⟨zP.kind,zP.name,zP.num,F6⟩:aI)).bind fun l38=>
   (some (au l38)).bind fun n39=>
   some ((I.wrap .i64 (I.sub n39 1)),l38)).bind fun(j28,Xt)=>
  (aL 8 xS j28).bind fun l40=>
  some (Xt,l40)).bind fun(j26,j27)=>
  self (j26,j27,(I.wrap .i64 (I.add Qy 1)))
 else
  k (Qe,xS,Qy)
def rY(I:Pr)(M:Md)(n:Nat)(l8:List aj)(JI:Int)(CL:aj)(K4:Int)(k:(List aj)×Int→Option ai)(self:(List aj)×Int→Option ai)(st:(List aj)×Int):Option ai:=
 match st with
 |(wH,jV)=>
 bif (I.aU jV JI)then
  (gI CL.af jV).bind fun qf=>
  (some (List.replicate 2 (0:Int))).bind fun qF=>
  (mU 2 qF).bind fun u19=>
  (mU 2 ([K4,jV])).bind fun u20=>
  (some (au qf.ops)).bind fun n21=>
  iter (rX I M n n21 qf (fun(Qd,BS,z43)=>
   (gI BS qf.result).bind fun IV=>
   (gN 2 0).bind fun k45=>
   (gK ([K4,jV]) k45).bind fun x46=>
   (gN (M.ln l8) x46).bind fun k47=>
   (gK wH k47).bind fun Zr=>
   (aL 56 Zr.af (⟨qf.head,qf.kids,Qd,IV⟩:ag)).bind fun Tg=>
   (fU wH k47 (⟨Zr.name,Zr.arity,Tg⟩:aj)).bind fun Qc=>
   self (Qc,(I.wrap .i64 (I.add jV 1))))) n ([],[],0)
 else
  k (wH,jV)
def rZ(I:Pr)(M:Md)(n:Nat)(a0:ai)(l8:List aj)(JJ:Int)(k:(List aj)×Int→Option ai)(self:(List aj)×Int→Option ai)(st:(List aj)×Int):Option ai:=
 match st with
 |(IB,K4)=>
 bif (I.aU K4 JJ)then
  (gI a0.blocks K4).bind fun CL=>
  (some (au CL.af)).bind fun JI=>
  iter (rY I M n l8 JI CL K4 (fun(U9,P7)=>
   self (U9,(I.wrap .i64 (I.add K4 1))))) n (IB,0)
 else
  k (IB,K4)
def r3(I:Pr)(M:Md)(n:Nat)(a0:ai)(n1:Int)(k:(List aj)×Int→Option ai)(self:(List aj)×Int→Option ai)(st:(List aj)×Int):Option ai:=
 match st with
 |(l4,z5)=>
 bif (I.aU z5 n1)then
  (gI a0.blocks z5).bind fun x6=>
  (aL 48 l4 (⟨x6.name,x6.arity,[]⟩:aj)).bind fun l7=>
  self (l7,(I.wrap .i64 (I.add z5 1)))
 else
  k (l4,z5)
def uH(I:Pr)(M:Md)(n:Nat)(a0:ai):Option ai:=
 (some (au a0.blocks)).bind fun n1=>
 bif (I.aU 0 n1)then
 (gI a0.blocks 0).bind fun x2=>
 (aL 48 [] (⟨x2.name,x2.arity,[]⟩:aj)).bind fun l3=>
 iter (r3 I M n a0 n1 (fun(l8,z9)=>
  (some (au a0.blocks)).bind fun JJ=>
  iter (rZ I M n a0 l8 JJ (fun(l53,z54)=>
   (eu (M.ln l8) l53).bind fun u55=>
   some (⟨l53⟩:ai))) n (l8,0))) n (l3,(I.wrap .i64 (I.add 0 1)))
 else
 none
def Dy(I:Pr)(M:Md)(n:Nat)(a0:ai):Option ai:=
 (uH I M n a0).bind fun y1=>
 some y1
def oN(I:Pr)(M:Md)(n:Nat)(a1:ai):Option ai:=
 (qZ I M n a1).bind fun y1=>
 some y1.1
def oM(I:Pr)(M:Md)(n:Nat)(a1:ai):Option ai:=
 (fA I M n a1).bind fun y1=>
 some y1.1
def lk(I:Pr)(M:Md)(n:Nat)(nu:List Int)(a1:List Int)(n1:Int)(k:Int×(List Int)→Option (List Int))(self:Int×(List Int)→Option (List Int))(st:Int×(List Int)):Option (List Int):=
 match st with
 |(z2,l3)=>
 bif (I.aU z2 n1)then
  (gI a1 z2).bind fun x4=>
  (gI nu x4).bind fun x5=>
  (aL 8 l3 x5).bind fun l6=>
  self ((I.wrap .i64 (I.add z2 1)),l6)
 else
  k (z2,l3)
def iA(I:Pr)(M:Md)(n:Nat)(yj:ByteArray)(yi:Int)(Ey:List aI)(yh:Int)(nu:List Int)(yg:ai)(a1:List Int):Option (List Int):=
 (some (au a1)).bind fun n1=>
 iter (lk I M n nu a1 n1 (fun(z7,l8)=>
  some l8)) n (0,[])
def cg(I:Pr)(M:Md)(n:Nat)(JH:Int)(IV:aI)(yq:aj)(k:Int×Bool×ByteArray×Int×(List aI)×Int→Option (Bool×ByteArray×Int×(List aI)×Int))(k2:Int→Option (Bool×ByteArray×Int×(List aI)×Int))(self:Int→Option (Bool×ByteArray×Int×(List aI)×Int))(OD:Int):Option (Bool×ByteArray×Int×(List aI)×Int):=
 bif (I.aU OD JH)then
  (gI yq.af OD).bind fun La=>
  (some (au IV.args)).bind fun KP=>
  bif (I.pick (I.pick (I.aN IV.kind 3) (I.seq La.head IV.name) false) (I.aN La.kids KP) false)then
  (lZ I M n La).bind fun y49=>
  k (OD,y49,La.head,La.kids,La.ops,La.result)
  else
  self (I.wrap .i64 (I.add OD 1))
 else
  k2 OD
def fL(I:Pr)(M:Md)(n:Nat)(s7:List aI)(U3:Int)(wB:List Int)(k:(List aI)×(List Int)×Int→Option ((List aI)×(List Int)))(self:(List aI)×(List Int)×Int→Option ((List aI)×(List Int)))(st:(List aI)×(List Int)×Int):Option ((List aI)×(List Int)):=
 match st with
 |(zQ,Bj,II)=>
 bif (I.aU II U3)then
  (gI s7 II).bind fun BK=>
  bif (I.aN BK.kind 1)then
  (gI wB BK.num).bind fun UX=>
  (aL 8 Bj UX).bind fun l89=>
  self (zQ,l89,(I.wrap .i64 (I.add II 1)))
  else
  bif (I.aN BK.kind 2)then
   (gI wB 0).bind fun x90=>
   (gI zQ x90).bind fun x91=>
   (gI x91.args BK.num).bind fun x92=>
   (aL 8 Bj x92).bind fun l93=>
   self (zQ,l93,(I.wrap .i64 (I.add II 1)))
  else
   (
   (fh I M n ⟨#[]⟩ 0 0 Bj BK.args).bind fun y96=>
   (some (au y96)).bind fun n97=>
   (xd 8 n97 0).bind fun l98=>
   (some (kH (M.ln l98) y96 l98)).bind fun l99=>
   (some (mT (M.ln l98) y96)).bind fun ais=>
   bif (I.aN n97 0)then
    (aL 56 zQ (⟨BK.kind,BK.name,BK.num,[]⟩:aI)).bind fun Xq=>
    (some (au Xq)).bind fun adO=>
    some ((I.wrap .i64 (I.sub adO 1)),Xq)
   else
    (eu (M.ln l98) l99).bind fun ahn=>
    (aL 56 zQ (⟨BK.kind,BK.name,BK.num,l99⟩:aI)).bind fun Xp=>
    (some (au Xp)).bind fun HJ=>
    some ((I.wrap .i64 (I.sub HJ 1)),Xp)).bind fun(j94,j95)=>
   (aL 8 Bj j94).bind fun adW=>
   self (j95,adW,(I.wrap .i64 (I.add II 1)))
 else
  k (zQ,Bj,II)
def fM(I:Pr)(M:Md)(n:Nat)(s7:List aI)(n64:Int)(k:Int×Int→Option ((List aI)×(List Int)))(self:Int×Int→Option ((List aI)×(List Int)))(st:Int×Int):Option ((List aI)×(List Int)):=
 match st with
 |(P6,P5)=>
 bif (I.aU P5 n64)then
  (gI s7 P5).bind fun x67=>
  bif (I.aN x67.kind 3)then
  self ((I.wrap .i64 (I.add P6 1)),(I.wrap .i64 (I.add P5 1)))
  else
  self (P6,(I.wrap .i64 (I.add P5 1)))
 else
  k (P6,P5)
def je(I:Pr)(M:Md)(n:Nat)(k:Unit→Option ((List aI)×(List Int)))(self:Unit→Option ((List aI)×(List Int)))(st:Unit):Option ((List aI)×(List Int)):=
 match st with
 |()=>
 k ()
def fK(I:Pr)(M:Md)(n:Nat)(k:Unit→Option ((List aI)×(List Int)))(self:Unit→Option ((List aI)×(List Int)))(st:Unit):Option ((List aI)×(List Int)):=
 match st with
 |()=>
 k ()
def cE(I:Pr)(M:Md)(n:Nat)(a0:ai)(aV:ai)(Xa:Int)(dY:ag)(eg:Int)(ey:Int)(k:(List aI)×(List Int)×Int→Option ai)(self:(List aI)×(List Int)×Int→Option ai)(st:(List aI)×(List Int)×Int):Option ai:=
 match st with
 |(oQ,sV,yo)=>
 bif (I.aU yo Xa)then
  (gI dY.ops yo).bind fun fw=>
  (
  (iA I M n dY.head dY.kids oQ 0 sV aV fw.args).bind fun wB=>
  (fo I M n fw).bind fun y34=>
  bif y34 then
   (
   (jC I M n aV fw.name).bind fun yq=>
   (gI yq.af 0).bind fun Lb=>
   bif (I.seq Lb.head (⟨#[]⟩:ByteArray))then
    some (false,⟨#[]⟩,0,[],0)
   else
    (gI fw.args 0).bind fun x42=>
    (gI sV x42).bind fun x43=>
    (gI oQ x43).bind fun IV=>
    (some (au yq.af)).bind fun JH=>
    iter (cg I M n JH IV yq (fun(z50,P8,Fs,UU,IA,y55)=>
     some (P8,Fs,UU,IA,y55)) (fun z56=>
     some (false,⟨#[]⟩,0,[],0))) n 0).bind fun(J0,Py,Fa,s7,BV)=>
   (gN 2 0).bind fun Tp=>
   (gK ([eg,ey]) Tp).bind fun UZ=>
   (gI a0.blocks UZ).bind fun qb=>
   (gN 2 1).bind fun k60=>
   (gK ([eg,ey]) k60).bind fun x61=>
   (gI qb.af x61).bind fun x62=>
   (some (au x62.ops)).bind fun Mi=>
   (some (au s7)).bind fun n64=>
   iter (fM I M n s7 n64 (fun(z68,z69)=>
    (some (au oQ)).bind fun n70=>
    (cL (I.not J0) false (gF I M n ([n70,z68,(I.wrap .i64 (I.sub (I.wrap .i64 (I.sub Mi yo)) 1))])) default).bind fun y71=>
    bif (I.pick (I.not J0) true (I.aU 60 y71))then
    (some (au wB)).bind fun ZK=>
    (xd 8 ZK 0).bind fun Td=>
    (some (kH (M.ln Td) wB Td)).bind fun Xk=>
    (some (mT (M.ln Td) wB)).bind fun n75=>
    bif (I.aN ZK 0)then
     (aL 56 oQ (⟨fw.kind,fw.name,fw.num,[]⟩:aI)).bind fun Xi=>
     (some (au Xi)).bind fun U4=>
     (aL 8 sV (I.wrap .i64 (I.sub U4 1))).bind fun HL=>
     some (Xi,HL)
    else
     (eu (M.ln Td) Xk).bind fun u79=>
     (aL 56 oQ (⟨fw.kind,fw.name,fw.num,Xk⟩:aI)).bind fun l80=>
     (some (au l80)).bind fun n81=>
     (aL 8 sV (I.wrap .i64 (I.sub n81 1))).bind fun l82=>
     some (l80,l82)
    else
    (some (au s7)).bind fun U3=>
    iter (fL I M n s7 U3 wB (fun(an7,JY,z109)=>
     (gI JY BV).bind fun QH=>
     (aL 8 sV QH).bind fun JX=>
     some (an7,JX))) n (oQ,[],0))) n (0,0)
  else
   (gN 2 0).bind fun ad5=>
   (gK ([eg,ey]) ad5).bind fun aaQ=>
   (gI a0.blocks aaQ).bind fun aaP=>
   (gN 2 1).bind fun ad4=>
   (gK ([eg,ey]) ad4).bind fun aaO=>
   (gI aaP.af aaO).bind fun aaN=>
   (some (au aaN.ops)).bind fun S7=>
   iter (fK I M n (fun _=>
    (some (au oQ)).bind fun S6=>
    (cL (I.not false) false (gF I M n ([S6,0,(I.wrap .i64 (I.sub (I.wrap .i64 (I.sub S7 yo)) 1))])) default).bind fun aaH=>
    bif (I.pick (I.not false) true (I.aU 60 aaH))then
    (some (au wB)).bind fun Xd=>
    (xd 8 Xd 0).bind fun Ps=>
    (some (kH (M.ln Ps) wB Ps)).bind fun Pq=>
    (some (mT (M.ln Ps) wB)).bind fun aiq=>
    bif (I.aN Xd 0)then
     (aL 56 oQ (⟨fw.kind,fw.name,fw.num,[]⟩:aI)).bind fun Xn=>
     (some (au Xn)).bind fun S5=>
     (aL 8 sV (I.wrap .i64 (I.sub S5 1))).bind fun Pp=>
     some (Xn,Pp)
    else
     (eu (M.ln Ps) Pq).bind fun ahl=>
     (aL 56 oQ (⟨fw.kind,fw.name,fw.num,Pq⟩:aI)).bind fun Po=>
     (some (au Po)).bind fun S4=>
     (aL 8 sV (I.wrap .i64 (I.sub S4 1))).bind fun Xm=>
     some (Po,Xm)
    else
    iter (je I M n (fun _=>
     none)) n ())) n ()).bind fun(Ts,j32)=>
  self (Ts,j32,(I.wrap .i64 (I.add yo 1)))
 else
  k (oQ,sV,yo)
def dm(I:Pr)(M:Md)(n:Nat)(a0:ai)(aV:ai)(l9:List aj)(DJ:Int)(ym:aj)(eg:Int)(k:(List Int)×(List aj)×Int→Option ai)(self:(List Int)×(List aj)×Int→Option ai)(st:(List Int)×(List aj)×Int):Option ai:=
 match st with
 |(tT,qF,ey)=>
 bif (I.aU ey DJ)then
  (gI ym.af ey).bind fun dY=>
  (some (List.replicate 2 (0:Int))).bind fun u9=>
  (mU 2 u9).bind fun Vv=>
  (mU 2 ([eg,ey])).bind fun OL=>
  (mU 2 ([eg,ey])).bind fun u24=>
  (mU 2 tT).bind fun u25=>
  (some (au dY.ops)).bind fun Xa=>
  iter (cE I M n a0 aV Xa dY eg ey (fun(Xl,an3,z134)=>
   (gI an3 dY.result).bind fun aaL=>
   (gN 2 0).bind fun aiO=>
   (gK ([eg,ey]) aiO).bind fun ahg=>
   (gN (M.ln l9) ahg).bind fun ad2=>
   (gK qF ad2).bind fun Vs=>
   (aL 56 Vs.af (⟨dY.head,dY.kids,Xl,aaL⟩:ag)).bind fun aiG=>
   (fU qF ad2 (⟨Vs.name,Vs.arity,aiG⟩:aj)).bind fun aiF=>
   self ([eg,ey],aiF,(I.wrap .i64 (I.add ey 1))))) n ([],[],0)
 else
  k (tT,qF,ey)
def dp(I:Pr)(M:Md)(n:Nat)(a0:ai)(aV:ai)(l9:List aj)(ub:Int)(k:(List Int)×(List aj)×Int→Option ai)(self:(List Int)×(List aj)×Int→Option ai)(st:(List Int)×(List aj)×Int):Option ai:=
 match st with
 |(iJ,wI,eg)=>
 bif (I.aU eg ub)then
  (gI a0.blocks eg).bind fun ym=>
  (some (au ym.af)).bind fun DJ=>
  iter (dm I M n a0 aV l9 DJ ym eg (fun(an2,an1,z144)=>
   self (an2,an1,(I.wrap .i64 (I.add eg 1))))) n (iJ,wI,0)
 else
  k (iJ,wI,eg)
def cF(I:Pr)(M:Md)(n:Nat)(a0:ai)(n2:Int)(k:(List aj)×Int→Option ai)(self:(List aj)×Int→Option ai)(st:(List aj)×Int):Option ai:=
 match st with
 |(l5,z6)=>
 bif (I.aU z6 n2)then
  (gI a0.blocks z6).bind fun x7=>
  (aL 48 l5 (⟨x7.name,x7.arity,[]⟩:aj)).bind fun l8=>
  self (l8,(I.wrap .i64 (I.add z6 1)))
 else
  k (l5,z6)
def lX(I:Pr)(M:Md)(n:Nat)(a0:ai)(aV:ai):Option ai:=
 (some (List.replicate 2 (0:Int))).bind fun l1=>
 (some (au a0.blocks)).bind fun n2=>
 bif (I.aU 0 n2)then
 (gI a0.blocks 0).bind fun x3=>
 (aL 48 [] (⟨x3.name,x3.arity,[]⟩:aj)).bind fun l4=>
 iter (cF I M n a0 n2 (fun(l9,yp)=>
  (some (au a0.blocks)).bind fun ub=>
  iter (dp I M n a0 aV l9 ub (fun(l145,aiE,z147)=>
   (eu (M.ln l9) aiE).bind fun amj=>
   some (⟨aiE⟩:ai))) n (l1,l9,0))) n (l4,(I.wrap .i64 (I.add 0 1)))
 else
 none
def eo(I:Pr)(M:Md)(n:Nat)(a0:ai):Option (ai×Int):=
 (dk I M n a0).bind fun y1=>
 bif (I.not (I.aN y1 0))then
 some ((⟨[]⟩:ai),y1)
 else
 (lX I M n a0 a0).bind fun y2=>
 some (y2,0)
def oL(I:Pr)(M:Md)(n:Nat)(a1:ai):Option ai:=
 (eo I M n (⟨a1.blocks⟩:ai)).bind fun y1=>
 some y1.1
def pB(I:Pr)(M:Md)(n:Nat)(a0:List Int)(a1:List Int)(n1:Int)(k:Int→Option Bool)(self:Int→Option Bool)(z3:Int):Option Bool:=
 bif (I.aU z3 n1)then
  (gI a0 z3).bind fun x4=>
  (gI a1 z3).bind fun x5=>
  bif (I.not (I.aN x4 x5))then
  some false
  else
  self (I.wrap .i64 (I.add z3 1))
 else
  k z3
def fT(I:Pr)(M:Md)(n:Nat)(a0:List Int)(a1:List Int):Option Bool:=
 (some (au a0)).bind fun n1=>
 (some (au a1)).bind fun n2=>
 bif (I.not (I.aN n1 n2))then
 some false
 else
 iter (pB I M n a0 a1 n1 (fun z6=>
  some true)) n 0
def pL(I:Pr)(M:Md)(n:Nat)(xS:List aI)(ZN:Int)(qU:aI)(Vr:List Int)(CF:List Int)(k:Int×Int→Option ((List (cj×List Int))×(List aI)×(List Int)))(k2:Int→Option ((List (cj×List Int))×(List aI)×(List Int)))(self:Int→Option ((List (cj×List Int))×(List aI)×(List Int)))(Cl:Int):Option ((List (cj×List Int))×(List aI)×(List Int)):=
 bif (I.aU Cl ZN)then
  (gI Vr Cl).bind fun oV=>
  (gI xS oV).bind fun GM=>
  (some (decide ((⟨GM.kind,GM.name,GM.num⟩:cj)=(⟨qU.kind,qU.name,qU.num⟩:cj)))).bind fun b37=>
  (cL b37 true (fT I M n GM.args CF) default).bind fun y38=>
  bif (I.pick b37 y38 false)then
  k (Cl,oV)
  else
  self (I.wrap .i64 (I.add Cl 1))
 else
  k2 Cl
def uI(I:Pr)(M:Md)(n:Nat)(S2:Int)(wC:ag)(k:(List aI)×(List Int)×(List (cj×List Int))×Int→Option (ai×Int))(self:(List aI)×(List Int)×(List (cj×List Int))×Int→Option (ai×Int))(st:(List aI)×(List Int)×(List (cj×List Int))×Int):Option (ai×Int):=
 match st with
 |(xS,KQ,Mp,CD)=>
 bif (I.aU CD S2)then
  (gI wC.ops CD).bind fun qU=>
  (
  (bu I M n wC.head wC.kids xS 0 KQ qU.args).bind fun CF=>
  (some (F4 Mp (⟨qU.kind,qU.name,qU.num⟩:cj) [])).bind fun Vr=>
  (some (au Vr)).bind fun ZN=>
  iter (pL I M n xS ZN qU Vr CF (fun(z39,yq)=>
   (aL 8 KQ yq).bind fun Qd=>
   some (Mp,xS,Qd)) (fun z42=>
   (some (au CF)).bind fun n43=>
   (xd 8 n43 0).bind fun E8=>
   (some (kH (M.ln E8) CF E8)).bind fun JV=>
   (some (mT (M.ln E8) CF)).bind fun U5=>
   bif (I.aN n43 0)then
    (aL 56 xS (⟨qU.kind,qU.name,qU.num,[]⟩:aI)).bind fun Th=>
    (some (au Th)).bind fun KP=>
    (some (X3 Mp (⟨qU.kind,qU.name,qU.num⟩:cj))).bind fun(Qc,k51,l52)=>
    (aL 8 l52 (I.wrap .i64 (I.sub KP 1))).bind fun IA=>
    (WC Qc k51 IA).bind fun U8=>
    (aL 8 KQ (I.wrap .i64 (I.sub KP 1))).bind fun Pn=>
    some (U8,Th,Pn)
   else
    (eu (M.ln E8) JV).bind fun u57=>
    (aL 56 xS (⟨qU.kind,qU.name,qU.num,JV⟩:aI)).bind fun l58=>
    (some (au l58)).bind fun ZL=>
    (some (X3 Mp (⟨qU.kind,qU.name,qU.num⟩:cj))).bind fun(l61,k62,l63)=>
    (aL 8 l63 (I.wrap .i64 (I.sub ZL 1))).bind fun Te=>
    (WC l61 k62 Te).bind fun NU=>
    (aL 8 KQ (I.wrap .i64 (I.sub ZL 1))).bind fun l67=>
    some (NU,l58,l67))) n 0).bind fun(sV,Xt,j30)=>
  self (Xt,j30,sV,(I.wrap .i64 (I.add CD 1)))
 else
  k (xS,KQ,Mp,CD)
def uJ(I:Pr)(M:Md)(n:Nat)(l9:List aj)(Xc:Int)(uk:aj)(nz:Int)(k:(List aj)×Int→Option (ai×Int))(self:(List aj)×Int→Option (ai×Int))(st:(List aj)×Int):Option (ai×Int):=
 match st with
 |(Mq,EI)=>
 bif (I.aU EI Xc)then
  (gI uk.af EI).bind fun wC=>
  (some (List.replicate 2 (0:Int))).bind fun HP=>
  (mU 2 HP).bind fun u20=>
  (mU 2 ([nz,EI])).bind fun u21=>
  (some (au wC.ops)).bind fun S2=>
  iter (uI I M n S2 wC (fun(l68,l69,Mm,z71)=>
   (gI l69 wC.result).bind fun Zq=>
   (gN 2 0).bind fun k73=>
   (gK ([nz,EI]) k73).bind fun Zp=>
   (gN (M.ln l9) Zp).bind fun k75=>
   (gK Mq k75).bind fun Zo=>
   (aL 56 Zo.af (⟨wC.head,wC.kids,l68,Zq⟩:ag)).bind fun l77=>
   (fU Mq k75 (⟨Zo.name,Zo.arity,l77⟩:aj)).bind fun HL=>
   self (HL,(I.wrap .i64 (I.add EI 1))))) n ([],[],([]:List (cj×List Int)),0)
 else
  k (Mq,EI)
def uK(I:Pr)(M:Md)(n:Nat)(a0:ai)(l9:List aj)(ub:Int)(k:(List aj)×Int→Option (ai×Int))(self:(List aj)×Int→Option (ai×Int))(st:(List aj)×Int):Option (ai×Int):=
 match st with
 |(iJ,nz)=>
 bif (I.aU nz ub)then
  (gI a0.blocks nz).bind fun uk=>
  (some (au uk.af)).bind fun Xc=>
  iter (uJ I M n l9 Xc uk nz (fun(ZR,z80)=>
   self (ZR,(I.wrap .i64 (I.add nz 1))))) n (iJ,0)
 else
  k (iJ,nz)
def uL(I:Pr)(M:Md)(n:Nat)(a0:ai)(n2:Int)(k:(List aj)×Int→Option (ai×Int))(self:(List aj)×Int→Option (ai×Int))(st:(List aj)×Int):Option (ai×Int):=
 match st with
 |(l5,z6)=>
 bif (I.aU z6 n2)then
  (gI a0.blocks z6).bind fun x7=>
  (aL 48 l5 (⟨x7.name,x7.arity,[]⟩:aj)).bind fun l8=>
  self (l8,(I.wrap .i64 (I.add z6 1)))
 else
  k (l5,z6)
def yN(I:Pr)(M:Md)(n:Nat)(a0:ai):Option (ai×Int):=
 (dk I M n a0).bind fun y1=>
 bif (I.not (I.aN y1 0))then
 some ((⟨[]⟩:ai),y1)
 else
 (some (au a0.blocks)).bind fun n2=>
 bif (I.aU 0 n2)then
  (gI a0.blocks 0).bind fun x3=>
  (aL 48 [] (⟨x3.name,x3.arity,[]⟩:aj)).bind fun l4=>
  iter (uL I M n a0 n2 (fun(l9,yp)=>
   (some (au a0.blocks)).bind fun ub=>
   iter (uK I M n a0 l9 ub (fun(l81,z82)=>
    (eu (M.ln l9) l81).bind fun u83=>
    some ((⟨l81⟩:ai),0))) n (l9,0))) n (l4,(I.wrap .i64 (I.add 0 1)))
 else
  none
def oK(I:Pr)(M:Md)(n:Nat)(a1:ai):Option ai:=
 (yN I M n (⟨a1.blocks⟩:ai)).bind fun y1=>
 some y1.1
def Bv(I:Pr)(M:Md)(n:Nat)(a0:ai)(a1:Int)(a2:Int):Option (ag×Int):=
 (dk I M n a0).bind fun y1=>
 bif (I.not (I.aN y1 0))then
 some ((⟨⟨#[]⟩,0,[],0⟩:ag),y1)
 else
 (some (au a0.blocks)).bind fun n2=>
 (cL (I.pick (I.pick (I.aU a1 0) true (I.rG n2 a1)) true (I.aU a2 0)) false (gI a0.blocks a1) default).bind fun x3=>
 (some (au x3.af)).bind fun n4=>
 bif (I.pick (I.pick (I.pick (I.aU a1 0) true (I.rG n2 a1)) true (I.aU a2 0)) true (I.rG n4 a2))then
  some ((⟨⟨#[]⟩,0,[],0⟩:ag),1)
 else
  (gI a0.blocks a1).bind fun x5=>
  (gI x5.af a2).bind fun x6=>
  some (x6,0)
def Bw(I:Pr)(M:Md)(n:Nat)(l3:List Bool)(JI:Int)(x9:aI)(k:(List Bool)×Int→Option ((List Bool)×Int))(self:(List Bool)×Int→Option ((List Bool)×Int))(st:(List Bool)×Int):Option ((List Bool)×Int):=
 match st with
 |(wH,jV)=>
 bif (I.aU jV JI)then
  (gI x9.args jV).bind fun qf=>
  (gN (M.ln l3) qf).bind fun Tq=>
  (gK wH Tq).bind fun Fv=>
  (fU wH Tq true).bind fun Tj=>
  self (Tj,(I.wrap .i64 (I.add jV 1)))
 else
  k (wH,jV)
def By(I:Pr)(M:Md)(n:Nat)(l3:List Bool)(y1:ag×Int)(k:(List Bool)×Int→Option ((List Bool)×Int))(self:(List Bool)×Int→Option ((List Bool)×Int))(st:(List Bool)×Int):Option ((List Bool)×Int):=
 match st with
 |(l7,z8)=>
 bif (I.rG 0 z8)then
  (gI y1.1.ops z8).bind fun x9=>
  (gN (M.ln l3) z8).bind fun ZU=>
  (gK l7 ZU).bind fun Fw=>
  (fU l7 ZU (I.pick (I.pick Fw true (I.aN x9.kind 4)) true (I.aN x9.kind 5))).bind fun iJ=>
  (gK iJ ZU).bind fun CL=>
  bif CL then
  (some (au x9.args)).bind fun JI=>
  iter (Bw I M n l3 JI x9 (fun(u9,BJ)=>
   self (u9,(I.wrap .i64 (I.sub z8 1))))) n (iJ,0)
  else
  self (iJ,(I.wrap .i64 (I.sub z8 1)))
 else
  k (l7,z8)
def Gi(I:Pr)(M:Md)(n:Nat)(a0:ai)(a1:Int)(a2:Int):Option ((List Bool)×Int):=
 (Bv I M n a0 a1 a2).bind fun y1=>
 bif (I.not (I.aN y1.2 0))then
 some ([],y1.2)
 else
 (some (au y1.1.ops)).bind fun n2=>
 (xd 1 n2 false).bind fun l3=>
 (gN (M.ln l3) y1.1.result).bind fun k4=>
 (gK l3 k4).bind fun x5=>
 (fU l3 k4 true).bind fun l6=>
 iter (By I M n l3 y1 (fun(xS,Qy)=>
  (eu (M.ln l3) xS).bind fun u25=>
  some (xS,0))) n (l6,(I.wrap .i64 (I.sub n2 1)))
def wY(I:Pr)(M:Md)(n:Nat)(n29:Int)(dY:ag)(QB:(List Bool)×Int)(k:(List aI)×(List Int)×Int→Option (ai×Int))(self:(List aI)×(List Int)×Int→Option (ai×Int))(st:(List aI)×(List Int)×Int):Option (ai×Int):=
 match st with
 |(EJ,E9,CC)=>
 bif (I.aU CC n29)then
  (gI dY.ops CC).bind fun Fu=>
  (
  (gI QB.1 CC).bind fun GM=>
  bif (I.not GM)then
   (aL 8 E9 0).bind fun l37=>
   some (EJ,l37)
  else
   (
   (bu I M n dY.head dY.kids EJ 0 E9 Fu.args).bind fun yq=>
   (some (au yq)).bind fun U6=>
   (xd 8 U6 0).bind fun BS=>
   (some (kH (M.ln BS) yq BS)).bind fun HN=>
   (some (mT (M.ln BS) yq)).bind fun n44=>
   bif (I.aN U6 0)then
    (aL 56 EJ (⟨Fu.kind,Fu.name,Fu.num,[]⟩:aI)).bind fun JV=>
    (some (au JV)).bind fun U5=>
    some ((I.wrap .i64 (I.sub U5 1)),JV)
   else
    (eu (M.ln BS) HN).bind fun u47=>
    (aL 56 EJ (⟨Fu.kind,Fu.name,Fu.num,HN⟩:aI)).bind fun Mo=>
    (some (au Mo)).bind fun Pj=>
    some ((I.wrap .i64 (I.sub Pj 1)),Mo)).bind fun(s7,BV)=>
   (aL 8 E9 s7).bind fun Qc=>
   some (BV,Qc)).bind fun(j34,J0)=>
  self (j34,J0,(I.wrap .i64 (I.add CC 1)))
 else
  k (EJ,E9,CC)
def wZ(I:Pr)(M:Md)(n:Nat)(a0:ai)(l9:List aj)(DJ:Int)(ym:aj)(eg:Int)(k:(List Bool)×(List aj)×Int→Option (ai×Int))(self:(List Bool)×(List aj)×Int→Option (ai×Int))(st:(List Bool)×(List aj)×Int):Option (ai×Int):=
 match st with
 |(tT,qF,ey)=>
 bif (I.aU ey DJ)then
  (gI ym.af ey).bind fun dY=>
  (some (List.replicate 2 (0:Int))).bind fun u9=>
  (mU 2 u9).bind fun Vv=>
  (mU 2 ([eg,ey])).bind fun OL=>
  (gN 2 0).bind fun Xs=>
  (gK ([eg,ey]) Xs).bind fun zP=>
  (gN 2 1).bind fun k26=>
  (gK ([eg,ey]) k26).bind fun qU=>
  (Gi I M n a0 zP qU).bind fun QB=>
  (some (au dY.ops)).bind fun n29=>
  iter (wY I M n n29 dY QB (fun(U9,l52,z53)=>
   (gI l52 dY.result).bind fun x54=>
   (gN 2 0).bind fun k55=>
   (gK ([eg,ey]) k55).bind fun x56=>
   (gN (M.ln l9) x56).bind fun Tp=>
   (gK qF Tp).bind fun UZ=>
   (aL 56 UZ.af (⟨dY.head,dY.kids,U9,x54⟩:ag)).bind fun JU=>
   (fU qF Tp (⟨UZ.name,UZ.arity,JU⟩:aj)).bind fun NV=>
   self (QB.1,NV,(I.wrap .i64 (I.add ey 1))))) n ([],[],0)
 else
  k (tT,qF,ey)
def xa(I:Pr)(M:Md)(n:Nat)(a0:ai)(l9:List aj)(ub:Int)(k:(List Bool)×(List aj)×Int→Option (ai×Int))(self:(List Bool)×(List aj)×Int→Option (ai×Int))(st:(List Bool)×(List aj)×Int):Option (ai×Int):=
 match st with
 |(iJ,wI,eg)=>
 bif (I.aU eg ub)then
  (gI a0.blocks eg).bind fun ym=>
  (some (au ym.af)).bind fun DJ=>
  iter (wZ I M n a0 l9 DJ ym eg (fun(l61,Mn,z63)=>
   self (l61,Mn,(I.wrap .i64 (I.add eg 1))))) n (iJ,wI,0)
 else
  k (iJ,wI,eg)
def xb(I:Pr)(M:Md)(n:Nat)(a0:ai)(n2:Int)(k:(List aj)×Int→Option (ai×Int))(self:(List aj)×Int→Option (ai×Int))(st:(List aj)×Int):Option (ai×Int):=
 match st with
 |(l5,z6)=>
 bif (I.aU z6 n2)then
  (gI a0.blocks z6).bind fun x7=>
  (aL 48 l5 (⟨x7.name,x7.arity,[]⟩:aj)).bind fun l8=>
  self (l8,(I.wrap .i64 (I.add z6 1)))
 else
  k (l5,z6)
def uR(I:Pr)(M:Md)(n:Nat)(a0:ai):Option (ai×Int):=
 (dk I M n a0).bind fun y1=>
 bif (I.not (I.aN y1 0))then
 some ((⟨[]⟩:ai),y1)
 else
 (some (au a0.blocks)).bind fun n2=>
 bif (I.aU 0 n2)then
  (gI a0.blocks 0).bind fun x3=>
  (aL 48 [] (⟨x3.name,x3.arity,[]⟩:aj)).bind fun l4=>
  iter (xb I M n a0 n2 (fun(l9,yp)=>
   (some (au a0.blocks)).bind fun ub=>
   iter (xa I M n a0 l9 ub (fun(Pm,Te,P5)=>
    (eu (M.ln l9) Te).bind fun u67=>
    some ((⟨Te⟩:ai),0))) n ([],l9,0))) n (l4,(I.wrap .i64 (I.add 0 1)))
 else
  none
def oJ(I:Pr)(M:Md)(n:Nat)(a1:ai):Option ai:=
 (uR I M n (⟨a1.blocks⟩:ai)).bind fun y1=>
 some y1.1
def xg(I:Pr)(M:Md)(n:Nat)(ub:Int)(vX:ag)(k:(List Int)×Int→Option (List Int))(self:(List Int)×Int→Option (List Int))(st:(List Int)×Int):Option (List Int):=
 match st with
 |(iJ,nz)=>
 bif (I.aU nz ub)then
  (gI vX.ops nz).bind fun uk=>
  bif (I.pick (I.aU uk.kind 1) true (I.aU 5 uk.kind))then
  (gN 6 0).bind fun k15=>
  (gK iJ k15).bind fun x16=>
  (fU iJ k15 (I.wrap .i64 (I.add x16 1))).bind fun tT=>
  self (tT,(I.wrap .i64 (I.add nz 1)))
  else
  (gN 6 uk.kind).bind fun Tq=>
  (gK iJ Tq).bind fun Fv=>
  (fU iJ Tq (I.wrap .i64 (I.add Fv 1))).bind fun Tj=>
  self (Tj,(I.wrap .i64 (I.add nz 1)))
 else
  k (iJ,nz)
def xh(I:Pr)(M:Md)(n:Nat)(n7:Int)(x6:aj)(k:(List Int)×Int→Option (List Int))(self:(List Int)×Int→Option (List Int))(st:(List Int)×Int):Option (List Int):=
 match st with
 |(l8,z9)=>
 bif (I.aU z9 n7)then
  (gI x6.af z9).bind fun vX=>
  (some (au vX.ops)).bind fun ub=>
  iter (xg I M n ub vX (fun(u9,BJ)=>
   self (u9,(I.wrap .i64 (I.add z9 1))))) n (l8,0)
 else
  k (l8,z9)
def xj(I:Pr)(M:Md)(n:Nat)(a0:ai)(n3:Int)(k:(List Int)×Int→Option (List Int))(self:(List Int)×Int→Option (List Int))(st:(List Int)×Int):Option (List Int):=
 match st with
 |(l4,z5)=>
 bif (I.aU z5 n3)then
  (gI a0.blocks z5).bind fun x6=>
  (some (au x6.af)).bind fun n7=>
  iter (xh I M n n7 x6 (fun(xS,Qy)=>
   self (xS,(I.wrap .i64 (I.add z5 1))))) n (l4,0)
 else
  k (l4,z5)
def vO(I:Pr)(M:Md)(n:Nat)(a0:ai):Option (List Int):=
 (some (List.replicate 6 (0:Int))).bind fun l1=>
 (some (List.replicate 6 (0:Int))).bind fun l2=>
 (some (au a0.blocks)).bind fun n3=>
 iter (xj I M n a0 n3 (fun(Mp,CD)=>
  (mU 6 Mp).bind fun u27=>
  (mU 6 l1).bind fun u28=>
  (mU 6 Mp).bind fun u29=>
  some Mp)) n (l2,0)
def Bz(I:Pr)(M:Md)(n:Nat)(a0:aI)(a1:aI):Option Bool:=
 (cL (I.pick (I.pick (I.aN a0.kind a1.kind) (I.seq a0.name a1.name) false) (I.aN a0.num a1.num) false) true (fT I M n a0.args a1.args) default).bind fun y1=>
 some (I.pick (I.pick (I.pick (I.aN a0.kind a1.kind) (I.seq a0.name a1.name) false) (I.aN a0.num a1.num) false) y1 false)
def kg(I:Pr)(M:Md)(n:Nat)(a0:List aI)(a1:List aI)(n1:Int)(k:Int→Option Bool)(self:Int→Option Bool)(z3:Int):Option Bool:=
 bif (I.aU z3 n1)then
  (gI a0 z3).bind fun x4=>
  (gI a1 z3).bind fun x5=>
  (Bz I M n x4 x5).bind fun y6=>
  bif (I.not y6)then
  some false
  else
  self (I.wrap .i64 (I.add z3 1))
 else
  k z3
def lN(I:Pr)(M:Md)(n:Nat)(a0:List aI)(a1:List aI):Option Bool:=
 (some (au a0)).bind fun n1=>
 (some (au a1)).bind fun n2=>
 bif (I.not (I.aN n1 n2))then
 some false
 else
 iter (kg I M n a0 a1 n1 (fun z7=>
  some true)) n 0
def vQ(I:Pr)(M:Md)(n:Nat)(a0:ag)(a1:ag):Option Bool:=
 (cL (I.pick (I.pick (I.seq a0.head a1.head) (I.aN a0.kids a1.kids) false) (I.aN a0.result a1.result) false) true (lN I M n a0.ops a1.ops) default).bind fun y1=>
 some (I.pick (I.pick (I.pick (I.seq a0.head a1.head) (I.aN a0.kids a1.kids) false) (I.aN a0.result a1.result) false) y1 false)
def ib(I:Pr)(M:Md)(n:Nat)(a0:List ag)(a1:List ag)(n1:Int)(k:Int→Option Bool)(self:Int→Option Bool)(z3:Int):Option Bool:=
 bif (I.aU z3 n1)then
  (gI a0 z3).bind fun x4=>
  (gI a1 z3).bind fun x5=>
  (vQ I M n x4 x5).bind fun y6=>
  bif (I.not y6)then
  some false
  else
  self (I.wrap .i64 (I.add z3 1))
 else
  k z3
def iW(I:Pr)(M:Md)(n:Nat)(a0:List ag)(a1:List ag):Option Bool:=
 (some (au a0)).bind fun n1=>
 (some (au a1)).bind fun n2=>
 bif (I.not (I.aN n1 n2))then
 some false
 else
 iter (ib I M n a0 a1 n1 (fun z7=>
  some true)) n 0
def vP(I:Pr)(M:Md)(n:Nat)(a0:aj)(a1:aj):Option Bool:=
 (cL (I.pick (I.seq a0.name a1.name) (I.aN a0.arity a1.arity) false) true (iW I M n a0.af a1.af) default).bind fun y1=>
 some (I.pick (I.pick (I.seq a0.name a1.name) (I.aN a0.arity a1.arity) false) y1 false)
def iI(I:Pr)(M:Md)(n:Nat)(a0:List aj)(a1:List aj)(n1:Int)(k:Int→Option Bool)(self:Int→Option Bool)(z3:Int):Option Bool:=
 bif (I.aU z3 n1)then
  (gI a0 z3).bind fun x4=>
  (gI a1 z3).bind fun x5=>
  (vP I M n x4 x5).bind fun y6=>
  bif (I.not y6)then
  some false
  else
  self (I.wrap .i64 (I.add z3 1))
 else
  k z3
def jQ(I:Pr)(M:Md)(n:Nat)(a0:List aj)(a1:List aj):Option Bool:=
 (some (au a0)).bind fun n1=>
 (some (au a1)).bind fun n2=>
 bif (I.not (I.aN n1 n2))then
 some false
 else
 iter (iI I M n a0 a1 n1 (fun z7=>
  some true)) n 0
def np(I:Pr)(M:Md)(n:Nat)(a0:ai)(a1:ai):Option Bool:=
 (vO I M n (⟨a0.blocks⟩:ai)).bind fun y1=>
 (vO I M n (⟨a1.blocks⟩:ai)).bind fun y2=>
 (mU 6 y1).bind fun u3=>
 (mU 6 y2).bind fun u4=>
 (some (decide (y1=y2))).bind fun b5=>
 (cL b5 true (jQ I M n a0.blocks a1.blocks) default).bind fun y6=>
 some (I.pick b5 y6 false)
def yP(I:Pr)(M:Md)(n:Nat)(k:(List aj)×Int×Int→Option (ai×Int×Int))(self:(List aj)×Int×Int→Option (ai×Int×Int))(st:(List aj)×Int×Int):Option (ai×Int×Int):=
 match st with
 |(l3,z4,z5)=>
 bif (I.aU z4 20)then
  (oN I M n (⟨l3⟩:ai)).bind fun y6=>
  (oM I M n y6).bind fun y7=>
  (oL I M n y7).bind fun y8=>
  (oK I M n y8).bind fun y9=>
  (oJ I M n y9).bind fun qT=>
  (np I M n qT (⟨l3⟩:ai)).bind fun rJ=>
  bif rJ then
  k (l3,z4,z5)
  else
  self (qT.blocks,(I.wrap .i64 (I.add z4 1)),(I.wrap .i64 (I.add z5 1)))
 else
  k (l3,z4,z5)
def Dz(I:Pr)(M:Md)(n:Nat)(a0:ai):Option (ai×Int×Int):=
 (dk I M n a0).bind fun y1=>
 bif (I.not (I.aN y1 0))then
 some ((⟨[]⟩:ai),0,y1)
 else
 (Dy I M n a0).bind fun y2=>
 iter (yP I M n (fun(iJ,nz,eg)=>
  some ((⟨iJ⟩:ai),eg,0))) n (y2.blocks,0,0)
def JT(I:Pr)(M:Md)(n:Nat)(a0:ByteArray)(a1:Int)(a2:Int)(a3:List aI):Option ag:=
 some (⟨a0,a1,a3,a2⟩:ag)
def xQ(I:Pr)(M:Md)(n:Nat):Option ai:=
 (bI I M n 2 (⟨#[]⟩:ByteArray) 0 []).bind fun y1=>
 (JT I M n (⟨#[115]⟩:ByteArray) 1 0 ([y1])).bind fun y2=>
 (cv I M n (⟨#[102]⟩:ByteArray) 1 ([y2])).bind fun y3=>
 (bI I M n 3 (⟨#[97]⟩:ByteArray) 0 []).bind fun y4=>
 (bI I M n 3 (⟨#[115]⟩:ByteArray) 0 ([0])).bind fun y5=>
 (bI I M n 5 (⟨#[102]⟩:ByteArray) 0 ([1])).bind fun y6=>
 (dh I M n 2 ([y4,y5,y6])).bind fun y7=>
 (cv I M n (⟨#[103]⟩:ByteArray) 0 y7).bind fun y8=>
 (pU I M n ([y3,y8])).bind fun y9=>
 some y9
def qG(I:Pr)(M:Md)(n:Nat)(a0:List Int):Option (List Int):=
 (It 8 [] a0).bind fun l1=>
 some l1
def lu(I:Pr)(M:Md)(n:Nat)(n9:Int)(x8:ag)(k:(List aI)×Int→Option ai)(self:(List aI)×Int→Option ai)(st:(List aI)×Int):Option ai:=
 match st with
 |(l10,Fq)=>
 bif (I.aU Fq n9)then
  (gI x8.ops Fq).bind fun tK=>
  (qG I M n tK.args).bind fun ov=>
  (aL 56 l10 (⟨tK.kind,tK.name,tK.num,ov⟩:aI)).bind fun Tk=>
  self (Tk,(I.wrap .i64 (I.add Fq 1)))
 else
  k (l10,Fq)
def lx(I:Pr)(M:Md)(n:Nat)(n5:Int)(x4:aj)(k:(List ag)×Int→Option ai)(self:(List ag)×Int→Option ai)(st:(List ag)×Int):Option ai:=
 match st with
 |(l6,z7)=>
 bif (I.aU z7 n5)then
  (gI x4.af z7).bind fun x8=>
  (some (au x8.ops)).bind fun n9=>
  iter (lu I M n n9 x8 (fun(wH,jV)=>
   (aL 56 l6 (⟨x8.head,x8.kids,wH,x8.result⟩:ag)).bind fun tT=>
   self (tT,(I.wrap .i64 (I.add z7 1))))) n ([],0)
 else
  k (l6,z7)
def nN(I:Pr)(M:Md)(n:Nat)(a0:ai)(n1:Int)(k:(List aj)×Int→Option ai)(self:(List aj)×Int→Option ai)(st:(List aj)×Int):Option ai:=
 match st with
 |(l2,z3)=>
 bif (I.aU z3 n1)then
  (gI a0.blocks z3).bind fun x4=>
  (some (au x4.af)).bind fun n5=>
  iter (lx I M n n5 x4 (fun(qF,ey)=>
   (aL 48 l2 (⟨x4.name,x4.arity,qF⟩:aj)).bind fun Tj=>
   self (Tj,(I.wrap .i64 (I.add z3 1))))) n ([],0)
 else
  k (l2,z3)
def pg(I:Pr)(M:Md)(n:Nat)(a0:ai):Option ai:=
 (some (au a0.blocks)).bind fun n1=>
 iter (nN I M n a0 n1 (fun(u9,BJ)=>
  some (⟨u9⟩:ai))) n ([],0)
def sC(I:Pr)(M:Md)(n:Nat)(a0:ai)(a1:ByteArray):Option (Int×Int):=
 (dk I M n a0).bind fun y1=>
 bif (I.not (I.aN y1 0))then
 some (0,y1)
 else
 (cT I M n a1 a0).bind fun y2=>
 bif (I.aU y2 0)then
  some (0,1)
 else
  some (y2,0)
def oI(I:Pr)(M:Md)(n:Nat)(a0:aI)(a1:aI)(a2:ai)(a3:List Int):Option Bool:=
 (cL (I.pick (I.not (I.aN a0.kind a1.kind)) true (I.not (I.aN a0.num a1.num))) false (fT I M n a0.args a1.args) default).bind fun y1=>
 bif (I.pick (I.pick (I.not (I.aN a0.kind a1.kind)) true (I.not (I.aN a0.num a1.num))) true (I.not y1))then
 some false
 else
 (fo I M n a0).bind fun y2=>
 bif (I.not y2)then
  some (I.seq a0.name a1.name)
 else
  (sC I M n a2 a0.name).bind fun y3=>
  (sC I M n a2 a1.name).bind fun y4=>
  (mU 12 a3).bind fun u5=>
  (gI a3 y3.1).bind fun x6=>
  (gI a3 y4.1).bind fun x7=>
  some (I.aN x6 x7)
def kf(I:Pr)(M:Md)(n:Nat)(a0:List aI)(a1:List aI)(AN:ai)(AM:List Int)(n1:Int)(k:Int→Option Bool)(self:Int→Option Bool)(z3:Int):Option Bool:=
 bif (I.aU z3 n1)then
  (gI a0 z3).bind fun x4=>
  (gI a1 z3).bind fun x5=>
  (oI I M n x4 x5 AN AM).bind fun y6=>
  bif (I.not y6)then
  some false
  else
  self (I.wrap .i64 (I.add z3 1))
 else
  k z3
def lM(I:Pr)(M:Md)(n:Nat)(a0:List aI)(a1:List aI)(AN:ai)(AM:List Int):Option Bool:=
 (some (au a0)).bind fun n1=>
 (some (au a1)).bind fun n2=>
 bif (I.not (I.aN n1 n2))then
 some false
 else
 iter (kf I M n a0 a1 AN AM n1 (fun z7=>
  some true)) n 0
def uG(I:Pr)(M:Md)(n:Nat)(a0:ai)(a1:List Int)(a2:ag)(a3:ag):Option Bool:=
 (cL (I.pick (I.pick (I.seq a2.head a3.head) (I.aN a2.kids a3.kids) false) (I.aN a2.result a3.result) false) true (lM I M n a2.ops a3.ops (⟨a0.blocks⟩:ai) a1) default).bind fun y1=>
 some (I.pick (I.pick (I.pick (I.seq a2.head a3.head) (I.aN a2.kids a3.kids) false) (I.aN a2.result a3.result) false) y1 false)
def mQ(I:Pr)(M:Md)(n:Nat)(a0:ag)(a1:ag)(a2:ai)(a3:List Int):Option Bool:=
 (mU 12 a3).bind fun u1=>
 (uG I M n a2 a3 a0 a1).bind fun y2=>
 some y2
def ia(I:Pr)(M:Md)(n:Nat)(a0:List ag)(a1:List ag)(AN:ai)(AM:List Int)(n1:Int)(k:Int→Option Bool)(self:Int→Option Bool)(z3:Int):Option Bool:=
 bif (I.aU z3 n1)then
  (gI a0 z3).bind fun x4=>
  (gI a1 z3).bind fun x5=>
  (mQ I M n x4 x5 AN AM).bind fun y6=>
  bif (I.not y6)then
  some false
  else
  self (I.wrap .i64 (I.add z3 1))
 else
  k z3
def iV(I:Pr)(M:Md)(n:Nat)(a0:List ag)(a1:List ag)(AN:ai)(AM:List Int):Option Bool:=
 (some (au a0)).bind fun n1=>
 (some (au a1)).bind fun n2=>
 bif (I.not (I.aN n1 n2))then
 some false
 else
 iter (ia I M n a0 a1 AN AM n1 (fun z7=>
  some true)) n 0
def oO(I:Pr)(M:Md)(n:Nat)(a0:aj)(a1:ai)(a2:List Int)(a3:Int)(a4:aj):Option Bool:=
 (sC I M n a1 a0.name).bind fun y1=>
 (mU 12 a2).bind fun u2=>
 (gI a2 y1.1).bind fun x3=>
 (gI a2 a3).bind fun x4=>
 (cL (I.pick (I.aN x3 x4) (I.aN a0.arity a4.arity) false) true (iV I M n a0.af a4.af (⟨a1.blocks⟩:ai) a2) default).bind fun y5=>
 some (I.pick (I.pick (I.aN x3 x4) (I.aN a0.arity a4.arity) false) y5 false)
def iD(I:Pr)(M:Md)(n:Nat)(a0:List aj)(aV:ai)(ug:List Int)(P2:Int)(P1:aj)(n1:Int)(k:Int→Option Int)(self:Int→Option Int)(z2:Int):Option Int:=
 bif (I.aU z2 n1)then
  (gI a0 z2).bind fun x3=>
  (oO I M n x3 aV ug P2 P1).bind fun y4=>
  bif y4 then
  some z2
  else
  self (I.wrap .i64 (I.add z2 1))
 else
  k z2
def jO(I:Pr)(M:Md)(n:Nat)(a0:List aj)(aV:ai)(ug:List Int)(P2:Int)(P1:aj):Option Int:=
 (some (au a0)).bind fun n1=>
 iter (iD I M n a0 aV ug P2 P1 n1 (fun z5=>
  some (-1))) n 0
def r4(I:Pr)(M:Md)(n:Nat)(a0:ai)(l3:List Int)(n5:Int)(k:(List Int)×Int→Option (List Int))(self:(List Int)×Int→Option (List Int))(st:(List Int)×Int):Option (List Int):=
 match st with
 |(l6,z7)=>
 bif (I.aU z7 n5)then
  (gI a0.blocks z7).bind fun x8=>
  (Ej a0.blocks 0 (I.wrap .i64 (I.add z7 1))).bind fun l9=>
  (jO I M n l9 (⟨a0.blocks⟩:ai) l3 z7 x8).bind fun qT=>
  (gN 12 z7).bind fun k11=>
  (gK l6 k11).bind fun tK=>
  (fU l6 k11 qT).bind fun wI=>
  self (wI,(I.wrap .i64 (I.add z7 1)))
 else
  k (l6,z7)
def r5(I:Pr)(M:Md)(n:Nat)(a0:ai)(l1:List Int)(self:(List Int)→Option (List Int))(l3:(List Int)):Option (List Int):=
 (some (List.replicate 12 (0:Int))).bind fun l4=>
 (some (au a0.blocks)).bind fun n5=>
 iter (r4 I M n a0 l3 n5 (fun(Tk,uh)=>
  (mU 12 Tk).bind fun u16=>
  (mU 12 l3).bind fun u17=>
  (mU 12 Tk).bind fun u18=>
  (mU 12 l3).bind fun u19=>
  (some (decide (Tk=l3))).bind fun b20=>
  bif b20 then
   (mU 12 l3).bind fun u21=>
   (mU 12 l1).bind fun Vv=>
   (mU 12 l3).bind fun OL=>
   some l3
  else
   (mU 12 Tk).bind fun u24=>
   (mU 12 l3).bind fun u25=>
   self Tk)) n (l4,0)
def pK(I:Pr)(M:Md)(n:Nat)(a0:ai):Option (List Int):=
 (some (List.replicate 12 (0:Int))).bind fun l1=>
 (some (List.replicate 12 (0:Int))).bind fun l2=>
 iter (r5 I M n a0 l1) n l2
def uS(I:Pr)(M:Md)(n:Nat)(a0:ai):Option ((List Int)×Int):=
 (dk I M n a0).bind fun y1=>
 bif (I.not (I.aN y1 0))then
 some ([],y1)
 else
 (pK I M n (⟨a0.blocks⟩:ai)).bind fun y2=>
 (some (List.replicate 12 (0:Int))).bind fun l3=>
 (mU 12 l3).bind fun u4=>
 (some (au a0.blocks)).bind fun n5=>
 (agm 12 n5 y2).bind fun j6=>
 (mY I M n (y2.take j6)).bind fun y7=>
 some (y7,0)
def uN(I:Pr)(M:Md)(n:Nat)(a0:ai)(n25:Int)(wQ:ag)(y2:List Int)(k:(List aI)×(List Int)×Int→Option (ai×Int))(self:(List aI)×(List Int)×Int→Option (ai×Int))(st:(List aI)×(List Int)×Int):Option (ai×Int):=
 match st with
 |(JW,oQ,Iy)=>
 bif (I.aU Iy n25)then
  (gI wQ.ops Iy).bind fun qc=>
  (
  (fo I M n qc).bind fun y32=>
  bif y32 then
   (sC I M n a0 qc.name).bind fun wB=>
   (gN 12 wB.1).bind fun k34=>
   (gK y2 k34).bind fun oV=>
   (gI a0.blocks oV).bind fun GM=>
   (
   (bu I M n wQ.head wQ.kids JW 0 oQ qc.args).bind fun QA=>
   (some (au QA)).bind fun n40=>
   (xd 8 n40 0).bind fun Qd=>
   (some (kH (M.ln Qd) QA Qd)).bind fun BS=>
   (some (mT (M.ln Qd) QA)).bind fun n43=>
   bif (I.aN n40 0)then
    (aL 56 JW (⟨qc.kind,GM.name,qc.num,[]⟩:aI)).bind fun E8=>
    (some (au E8)).bind fun JH=>
    some ((I.wrap .i64 (I.sub JH 1)),E8)
   else
    (eu (M.ln Qd) BS).bind fun u46=>
    (aL 56 JW (⟨qc.kind,GM.name,qc.num,BS⟩:aI)).bind fun Th=>
    (some (au Th)).bind fun KP=>
    some ((I.wrap .i64 (I.sub KP 1)),Th)).bind fun(Fa,s7)=>
   (aL 8 oQ Fa).bind fun Tg=>
   some (s7,Tg)
  else
   (
   (bu I M n wQ.head wQ.kids JW 0 oQ qc.args).bind fun Fs=>
   (some (au Fs)).bind fun n53=>
   (xd 8 n53 0).bind fun IA=>
   (some (kH (M.ln IA) Fs IA)).bind fun U8=>
   (some (mT (M.ln IA) Fs)).bind fun ZM=>
   bif (I.aN n53 0)then
    (aL 56 JW (⟨qc.kind,qc.name,qc.num,[]⟩:aI)).bind fun Tf=>
    (some (au Tf)).bind fun S1=>
    some ((I.wrap .i64 (I.sub S1 1)),Tf)
   else
    (eu (M.ln IA) U8).bind fun u59=>
    (aL 56 JW (⟨qc.kind,qc.name,qc.num,U8⟩:aI)).bind fun NV=>
    (some (au NV)).bind fun W7=>
    some ((I.wrap .i64 (I.sub W7 1)),NV)).bind fun(j50,j51)=>
   (aL 8 oQ j50).bind fun Mn=>
   some (j51,Mn)).bind fun(j30,Ts)=>
  self (j30,Ts,(I.wrap .i64 (I.add Iy 1)))
 else
  k (JW,oQ,Iy)
def uO(I:Pr)(M:Md)(n:Nat)(a0:ai)(iJ:List aj)(Qb:Int)(qf:aj)(y2:List Int)(jV:Int)(k:(List aj)×Int→Option (ai×Int))(self:(List aj)×Int→Option (ai×Int))(st:(List aj)×Int):Option (ai×Int):=
 match st with
 |(HP,AS)=>
 bif (I.aU AS Qb)then
  (gI qf.af AS).bind fun wQ=>
  (some (List.replicate 2 (0:Int))).bind fun Qe=>
  (mU 2 Qe).bind fun OL=>
  (mU 2 ([jV,AS])).bind fun u24=>
  (some (au wQ.ops)).bind fun n25=>
  iter (uN I M n a0 n25 wQ y2 (fun(l63,Pm,P6)=>
   (gI Pm wQ.result).bind fun x66=>
   (gN 2 0).bind fun k67=>
   (gK ([jV,AS]) k67).bind fun Vq=>
   (gN (M.ln iJ) Vq).bind fun Va=>
   (gK HP Va).bind fun Vp=>
   (aL 56 Vp.af (⟨wQ.head,wQ.kids,l63,x66⟩:ag)).bind fun HM=>
   (fU HP Va (⟨Vp.name,Vp.arity,HM⟩:aj)).bind fun l72=>
   self (l72,(I.wrap .i64 (I.add AS 1))))) n ([],[],0)
 else
  k (HP,AS)
def uM(I:Pr)(M:Md)(n:Nat)(iJ:List aj)(Xj:List aj)(U4:Int)(y2:List Int)(k:(List aj)×Int→Option (ai×Int))(self:(List aj)×Int→Option (ai×Int))(st:(List aj)×Int):Option (ai×Int):=
 match st with
 |(HL,Qw)=>
 bif (I.aU Qw U4)then
  (gN (M.ln iJ) Qw).bind fun k80=>
  (gK Xj k80).bind fun x81=>
  (gN 12 Qw).bind fun k82=>
  (gK y2 k82).bind fun x83=>
  bif (I.aN x83 Qw)then
  (aL 48 HL x81).bind fun zQ=>
  self (zQ,(I.wrap .i64 (I.add Qw 1)))
  else
  self (HL,(I.wrap .i64 (I.add Qw 1)))
 else
  k (HL,Qw)
def uP(I:Pr)(M:Md)(n:Nat)(a0:ai)(iJ:List aj)(JI:Int)(y2:List Int)(k:(List aj)×Int→Option (ai×Int))(self:(List aj)×Int→Option (ai×Int))(st:(List aj)×Int):Option (ai×Int):=
 match st with
 |(wH,jV)=>
 bif (I.aU jV JI)then
  (gI a0.blocks jV).bind fun qf=>
  (some (au qf.af)).bind fun Qb=>
  iter (uO I M n a0 iJ Qb qf y2 jV (fun(Td,z74)=>
   self (Td,(I.wrap .i64 (I.add jV 1))))) n (wH,0)
 else
  k (wH,jV)
def uQ(I:Pr)(M:Md)(n:Nat)(a0:ai)(n5:Int)(k:(List aj)×Int→Option (ai×Int))(self:(List aj)×Int→Option (ai×Int))(st:(List aj)×Int):Option (ai×Int):=
 match st with
 |(l8,z9)=>
 bif (I.aU z9 n5)then
  (gI a0.blocks z9).bind fun vX=>
  (aL 48 l8 (⟨vX.name,vX.arity,[]⟩:aj)).bind fun IB=>
  self (IB,(I.wrap .i64 (I.add z9 1)))
 else
  k (l8,z9)
def yO(I:Pr)(M:Md)(n:Nat)(a0:ai):Option (ai×Int):=
 (dk I M n a0).bind fun y1=>
 bif (I.not (I.aN y1 0))then
 some ((⟨[]⟩:ai),y1)
 else
 (pK I M n a0).bind fun y2=>
 (some (List.replicate 12 (0:Int))).bind fun l3=>
 (mU 12 l3).bind fun u4=>
 (some (au a0.blocks)).bind fun n5=>
 bif (I.aU 0 n5)then
  (gI a0.blocks 0).bind fun x6=>
  (aL 48 [] (⟨x6.name,x6.arity,[]⟩:aj)).bind fun l7=>
  iter (uQ I M n a0 n5 (fun(iJ,nz)=>
   (some (au a0.blocks)).bind fun JI=>
   iter (uP I M n a0 iJ JI y2 (fun(Xj,z76)=>
    (some ((((M.ln iJ):Nat):Int))).bind fun U4=>
    iter (uM I M n iJ Xj U4 y2 (fun(Bj,II)=>
     some ((⟨Bj⟩:ai),0))) n ([],0))) n (iJ,0))) n (l7,(I.wrap .i64 (I.add 0 1)))
 else
  none
def nM(I:Pr)(M:Md)(n:Nat):Option Bool:=
 (pf I M n).bind fun y1=>
 (qZ I M n (⟨y1.blocks⟩:ai)).bind fun y2=>
 (pf I M n).bind fun y3=>
 (fA I M n (⟨y3.blocks⟩:ai)).bind fun y4=>
 (pf I M n).bind fun y5=>
 (Dz I M n (⟨y5.blocks⟩:ai)).bind fun y6=>
 (xQ I M n).bind fun y7=>
 (eo I M n y7).bind fun y8=>
 (uR I M n y8.1).bind fun y9=>
 (sU I M n).bind fun qT=>
 (uS I M n (⟨qT.blocks⟩:ai)).bind fun rJ=>
 (sU I M n).bind fun CG=>
 (yO I M n CG).bind fun ov=>
 (bI I M n 3 (⟨#[97]⟩:ByteArray) 0 []).bind fun EK=>
 (bI I M n 5 (⟨#[111,110,101,115]⟩:ByteArray) 0 []).bind fun Ft=>
 (bI I M n 3 (⟨#[99,111,110,115]⟩:ByteArray) 0 ([0,1])).bind fun IK=>
 (dh I M n 2 ([EK,Ft,IK])).bind fun y17=>
 (cv I M n (⟨#[111,110,101,115]⟩:ByteArray) 0 y17).bind fun QC=>
 (bI I M n 1 (⟨#[]⟩:ByteArray) 0 []).bind fun y19=>
 (dh I M n 0 ([y19])).bind fun Qa=>
 (cv I M n (⟨#[105,100]⟩:ByteArray) 1 Qa).bind fun Vn=>
 (bI I M n 4 (⟨#[111,110,101,115]⟩:ByteArray) 0 []).bind fun UW=>
 (bI I M n 5 (⟨#[105,100]⟩:ByteArray) 0 ([0])).bind fun y23=>
 (bI I M n 5 (⟨#[111,110,101,115]⟩:ByteArray) 0 []).bind fun Zn=>
 (bI I M n 3 (⟨#[112]⟩:ByteArray) 0 ([1,2])).bind fun Vm=>
 (dh I M n 3 ([UW,y23,Zn,Vm])).bind fun y26=>
 (cv I M n (⟨#[116,119,111]⟩:ByteArray) 0 y26).bind fun y27=>
 (bI I M n 4 (⟨#[111,110,101,115]⟩:ByteArray) 0 []).bind fun QB=>
 (bI I M n 5 (⟨#[111,110,101,115]⟩:ByteArray) 0 []).bind fun y29=>
 (bI I M n 3 (⟨#[112]⟩:ByteArray) 0 ([0,1])).bind fun Gz=>
 (dh I M n 2 ([QB,y29,Gz])).bind fun CF=>
 (cv I M n (⟨#[116,119,111]⟩:ByteArray) 0 CF).bind fun y32=>
 (gN 3 2).bind fun k33=>
 (gK ([QC,Vn,y27]) k33).bind fun Zs=>
 (fU ([QC,Vn,y27]) k33 y32).bind fun l35=>
 (some (l35.take 3)).bind fun w36=>
 (bI I M n 3 (⟨#[97]⟩:ByteArray) 0 []).bind fun y37=>
 (bI I M n 5 (⟨#[111,110,101,115]⟩:ByteArray) 0 []).bind fun y38=>
 (bI I M n 3 (⟨#[99,111,110,115]⟩:ByteArray) 0 ([0,1])).bind fun QA=>
 (dh I M n 2 ([y37,y38,QA])).bind fun yq=>
 (cv I M n (⟨#[111,110,101,115]⟩:ByteArray) 0 yq).bind fun P9=>
 (bI I M n 1 (⟨#[]⟩:ByteArray) 0 []).bind fun y42=>
 (dh I M n 0 ([y42])).bind fun y43=>
 (cv I M n (⟨#[105,100]⟩:ByteArray) 1 y43).bind fun y44=>
 (bI I M n 4 (⟨#[111,110,101,115]⟩:ByteArray) 0 []).bind fun y45=>
 (bI I M n 5 (⟨#[105,100]⟩:ByteArray) 0 ([0])).bind fun y46=>
 (bI I M n 5 (⟨#[111,110,101,115]⟩:ByteArray) 0 []).bind fun y47=>
 (bI I M n 3 (⟨#[112]⟩:ByteArray) 0 ([1,2])).bind fun y48=>
 (dh I M n 3 ([y45,y46,y47,y48])).bind fun y49=>
 (cv I M n (⟨#[116,119,111]⟩:ByteArray) 0 y49).bind fun Vl=>
 (bI I M n 5 (⟨#[111,110,101,115]⟩:ByteArray) 0 []).bind fun P8=>
 (bI I M n 3 (⟨#[112]⟩:ByteArray) 0 ([0,0])).bind fun Fs=>
 (dh I M n 1 ([P8,Fs])).bind fun UU=>
 (cv I M n (⟨#[116,119,111]⟩:ByteArray) 0 UU).bind fun UT=>
 (gK ([P9,y44,Vl]) k33).bind fun x55=>
 (fU ([P9,y44,Vl]) k33 UT).bind fun Pn=>
 (some (Pn.take 3)).bind fun w57=>
 (xQ I M n).bind fun y58=>
 (gI y58.blocks 0).bind fun qb=>
 (bI I M n 3 (⟨#[97]⟩:ByteArray) 0 []).bind fun KM=>
 (dh I M n 0 ([KM])).bind fun y61=>
 (cv I M n (⟨#[103]⟩:ByteArray) 0 y61).bind fun rF=>
 (pU I M n ([qb,rF])).bind fun y63=>
 (cL (I.pick (I.pick (I.pick (I.pick (I.pick (I.pick (I.aN y2.2 0) (I.aN y4.2 0) false) (I.aN y6.2.2 0) false) (I.aN y8.2 0) false) (I.aN y9.2 0) false) (I.aN rJ.2 0) false) (I.aN ov.2 0) false) true (pf I M n) default).bind fun y64=>
 (cL (I.pick (I.pick (I.pick (I.pick (I.pick (I.pick (I.aN y2.2 0) (I.aN y4.2 0) false) (I.aN y6.2.2 0) false) (I.aN y8.2 0) false) (I.aN y9.2 0) false) (I.aN rJ.2 0) false) (I.aN ov.2 0) false) true (np I M n y2.1 y64) default).bind fun Qz=>
 (cL (I.pick (I.pick (I.pick (I.pick (I.pick (I.pick (I.pick (I.aN y2.2 0) (I.aN y4.2 0) false) (I.aN y6.2.2 0) false) (I.aN y8.2 0) false) (I.aN y9.2 0) false) (I.aN rJ.2 0) false) (I.aN ov.2 0) false) Qz false) true (np I M n y4.1 (⟨w36⟩:ai)) default).bind fun US=>
 (cL (I.pick (I.pick (I.pick (I.pick (I.pick (I.pick (I.pick (I.pick (I.aN y2.2 0) (I.aN y4.2 0) false) (I.aN y6.2.2 0) false) (I.aN y8.2 0) false) (I.aN y9.2 0) false) (I.aN rJ.2 0) false) (I.aN ov.2 0) false) Qz false) US false) true (np I M n y6.1 (⟨w57⟩:ai)) default).bind fun Vk=>
 (cL (I.pick (I.pick (I.pick (I.pick (I.pick (I.pick (I.pick (I.pick (I.pick (I.pick (I.aN y2.2 0) (I.aN y4.2 0) false) (I.aN y6.2.2 0) false) (I.aN y8.2 0) false) (I.aN y9.2 0) false) (I.aN rJ.2 0) false) (I.aN ov.2 0) false) Qz false) US false) Vk false) (I.aN y6.2.1 2) false) true (np I M n y9.1 y63) default).bind fun Zm=>
 (cL (I.pick (I.pick (I.pick (I.pick (I.pick (I.pick (I.pick (I.pick (I.pick (I.pick (I.pick (I.aN y2.2 0) (I.aN y4.2 0) false) (I.aN y6.2.2 0) false) (I.aN y8.2 0) false) (I.aN y9.2 0) false) (I.aN rJ.2 0) false) (I.aN ov.2 0) false) Qz false) US false) Vk false) (I.aN y6.2.1 2) false) Zm false) true (fT I M n rJ.1 ([0,0])) default).bind fun y69=>
 (cL (I.pick (I.pick (I.pick (I.pick (I.pick (I.pick (I.pick (I.pick (I.pick (I.pick (I.pick (I.pick (I.aN y2.2 0) (I.aN y4.2 0) false) (I.aN y6.2.2 0) false) (I.aN y8.2 0) false) (I.aN y9.2 0) false) (I.aN rJ.2 0) false) (I.aN ov.2 0) false) Qz false) US false) Vk false) (I.aN y6.2.1 2) false) Zm false) y69 false) true (sU I M n) default).bind fun y70=>
 (cL (I.pick (I.pick (I.pick (I.pick (I.pick (I.pick (I.pick (I.pick (I.pick (I.pick (I.pick (I.pick (I.aN y2.2 0) (I.aN y4.2 0) false) (I.aN y6.2.2 0) false) (I.aN y8.2 0) false) (I.aN y9.2 0) false) (I.aN rJ.2 0) false) (I.aN ov.2 0) false) Qz false) US false) Vk false) (I.aN y6.2.1 2) false) Zm false) y69 false) true (gI y70.blocks 0) default).bind fun UY=>
 (cL (I.pick (I.pick (I.pick (I.pick (I.pick (I.pick (I.pick (I.pick (I.pick (I.pick (I.pick (I.pick (I.aN y2.2 0) (I.aN y4.2 0) false) (I.aN y6.2.2 0) false) (I.aN y8.2 0) false) (I.aN y9.2 0) false) (I.aN rJ.2 0) false) (I.aN ov.2 0) false) Qz false) US false) Vk false) (I.aN y6.2.1 2) false) Zm false) y69 false) true (pU I M n ([UY])) default).bind fun y72=>
 (cL (I.pick (I.pick (I.pick (I.pick (I.pick (I.pick (I.pick (I.pick (I.pick (I.pick (I.pick (I.pick (I.aN y2.2 0) (I.aN y4.2 0) false) (I.aN y6.2.2 0) false) (I.aN y8.2 0) false) (I.aN y9.2 0) false) (I.aN rJ.2 0) false) (I.aN ov.2 0) false) Qz false) US false) Vk false) (I.aN y6.2.1 2) false) Zm false) y69 false) true (np I M n ov.1 y72) default).bind fun y73=>
 some (I.pick (I.pick (I.pick (I.pick (I.pick (I.pick (I.pick (I.pick (I.pick (I.pick (I.pick (I.pick (I.pick (I.aN y2.2 0) (I.aN y4.2 0) false) (I.aN y6.2.2 0) false) (I.aN y8.2 0) false) (I.aN y9.2 0) false) (I.aN rJ.2 0) false) (I.aN ov.2 0) false) Qz false) US false) Vk false) (I.aN y6.2.1 2) false) Zm false) y69 false) y73 false)
def ew(I:Pr)(M:Md)(n:Nat)(a0:Int)(a1:Int)(a2:Int):Option Bool:=
 some (I.pick (I.aU a0 a1) true (I.aU a2 a0))
def Ad(I:Pr)(M:Md)(n:Nat)(a0:Int)(a1:Int)(a2:Int):Option Bool:=
 some (I.pick (I.aU a0 a1) true (I.aU a2 a0))
def nB(I:Pr)(M:Md)(n:Nat)(a0:ByteArray)(k:Int→Option Bool)(self:Int→Option Bool)(z3:Int):Option Bool:=
 (some (lB a0)).bind fun n4=>
 bif (I.aU z3 n4)then
  (gB a0 z3).bind fun x5=>
  (cL (I.aU x5 97) false (gB a0 z3) default).bind fun x6=>
  bif (I.pick (I.aU x5 97) true (I.aU 122 x6))then
  some false
  else
  self (I.wrap .i64 (I.add z3 1))
 else
  k z3
def lh(I:Pr)(M:Md)(n:Nat)(a0:ByteArray):Option Bool:=
 (some (lB a0)).bind fun n1=>
 (Ad I M n n1 1 8).bind fun y2=>
 bif y2 then
 some false
 else
 iter (nB I M n a0 (fun z7=>
  some true)) n 0
def eF(I:Pr)(M:Md)(n:Nat)(a0:aj)(CD:Int)(k:Int→Option Int)(self:Int→Option Int)(Iy:Int):Option Int:=
 bif (I.aU Iy CD)then
  (gI a0.af CD).bind fun qc=>
  (gI a0.af Iy).bind fun fw=>
  (cL (I.seq qc.head fw.head) true (gI a0.af CD) default).bind fun x31=>
  (cL (I.seq qc.head fw.head) true (gI a0.af Iy) default).bind fun Vr=>
  bif (I.pick (I.seq qc.head fw.head) (I.aN x31.kids Vr.kids) false)then
  some 5
  else
  self (I.wrap .i64 (I.add Iy 1))
 else
  k Iy
def dB(I:Pr)(M:Md)(n:Nat)(a0:aj)(k:Int→Option Int)(self:Int→Option Int)(CD:Int):Option Int:=
 (some (au a0.af)).bind fun n27=>
 bif (I.aU CD n27)then
  iter (eF I M n a0 CD (fun z33=>
   self (I.wrap .i64 (I.add CD 1)))) n 0
 else
  k CD
def eG(I:Pr)(M:Md)(n:Nat)(a0:aj)(k:Int→Option Int)(self:Int→Option Int)(BJ:Int):Option Int:=
 (some (au a0.af)).bind fun Xb=>
 bif (I.aU BJ Xb)then
  (gI a0.af BJ).bind fun IW=>
  bif (I.pick (I.pick (I.seq IW.head (⟨#[]⟩:ByteArray)) (I.pick (I.aU 1 Xb) true (I.not (I.aN IW.kids 0))) false) true (I.pick (I.not (I.seq IW.head (⟨#[]⟩:ByteArray))) (I.aN a0.arity 0) false))then
  some 7
  else
  self (I.wrap .i64 (I.add BJ 1))
 else
  k BJ
def eH(I:Pr)(M:Md)(n:Nat)(a0:aj)(k:Int→Option Int)(self:Int→Option Int)(jV:Int):Option Int:=
 (some (au a0.af)).bind fun S3=>
 bif (I.aU jV S3)then
  (gI a0.af jV).bind fun wC=>
  (cL (I.not (I.seq wC.head (⟨#[]⟩:ByteArray))) true (gI a0.af jV) default).bind fun Fv=>
  (cL (I.not (I.seq wC.head (⟨#[]⟩:ByteArray))) true (lh I M n Fv.head) default).bind fun Qa=>
  bif (I.pick (I.not (I.seq wC.head (⟨#[]⟩:ByteArray))) (I.not Qa) false)then
  some 4
  else
  self (I.wrap .i64 (I.add jV 1))
 else
  k jV
def eI(I:Pr)(M:Md)(n:Nat)(a0:aj)(k:Int→Option Int)(self:Int→Option Int)(yp:Int):Option Int:=
 (some (au a0.af)).bind fun ub=>
 bif (I.aU yp ub)then
  (gI a0.af yp).bind fun tK=>
  (ew I M n tK.kids 0 4).bind fun ov=>
  bif ov then
  some 3
  else
  self (I.wrap .i64 (I.add yp 1))
 else
  k yp
def eJ(I:Pr)(M:Md)(n:Nat)(a0:aj)(k:Int→Option Int)(self:Int→Option Int)(z3:Int):Option Int:=
 (some (au a0.af)).bind fun n4=>
 bif (I.aU z3 n4)then
  (gI a0.af z3).bind fun x5=>
  (some (au x5.ops)).bind fun n6=>
  (ew I M n n6 1 60).bind fun y7=>
  bif y7 then
  some 2
  else
  self (I.wrap .i64 (I.add z3 1))
 else
  k z3
def jy(I:Pr)(M:Md)(n:Nat)(a0:aj):Option Int:=
 (some (au a0.af)).bind fun n1=>
 (ew I M n n1 1 6).bind fun y2=>
 bif y2 then
 some 2
 else
 iter (eJ I M n a0 (fun z8=>
  (ew I M n a0.arity 0 4).bind fun y9=>
  bif y9 then
   some 3
  else
   iter (eI I M n a0 (fun eg=>
    (lh I M n a0.name).bind fun Ft=>
    bif (I.not Ft)then
    some 4
    else
    iter (eH I M n a0 (fun z21=>
     iter (eG I M n a0 (fun z25=>
      iter (dB I M n a0 (fun Cl=>
       some 0)) n 0)) n 0)) n 0)) n 0)) n 0
def yI(I:Pr)(M:Md)(n:Nat)(a0:ai)(a1:ByteArray)(k:Int→Option Int)(self:Int→Option Int)(z1:Int):Option Int:=
 (some (au a0.blocks)).bind fun n2=>
 bif (I.aU z1 n2)then
  (gI a0.blocks z1).bind fun x3=>
  bif (I.seq x3.name a1)then
  some z1
  else
  self (I.wrap .i64 (I.add z1 1))
 else
  k z1
def m0(I:Pr)(M:Md)(n:Nat)(a0:ai)(a1:ByteArray):Option Int:=
 iter (yI I M n a0 a1 (fun z4=>
  some (-1))) n 0
def jz(I:Pr)(M:Md)(n:Nat)(a0:List aI)(l1:List Bool)(z2:Int)(k:Bool×Int→Option (List Bool))(self:Bool×Int→Option (List Bool))(st:Bool×Int):Option (List Bool):=
 match st with
 |(z5,z6)=>
 (gI a0 z2).bind fun x7=>
 (some (au x7.args)).bind fun n8=>
 bif (I.aU z6 n8)then
  (cL z5 false (gI a0 z2) default).bind fun x9=>
  (cL z5 false (cL (I.aN x9.kind 3) true (gI a0 z2) default) default).bind fun vX=>
  (cL z5 false (cL (I.aN x9.kind 3) true (gI vX.args z6) default) default).bind fun Fw=>
  (cL z5 false (cL (I.aN x9.kind 3) true (gI l1 Fw) default) default).bind fun tK=>
  self ((I.pick z5 true (I.pick (I.aN x9.kind 3) tK false)),(I.wrap .i64 (I.add z6 1)))
 else
  k (z5,z6)
def lR(I:Pr)(M:Md)(n:Nat)(a0:List aI)(k:(List Bool)×Int→Option (List Bool))(self:(List Bool)×Int→Option (List Bool))(st:(List Bool)×Int):Option (List Bool):=
 match st with
 |(l1,z2)=>
 (some (au a0)).bind fun n3=>
 bif (I.aU z2 n3)then
  (gI a0 z2).bind fun x4=>
  iter (jz I M n a0 l1 z2 (fun(nz,eg)=>
   (aL 1 l1 nz).bind fun wH=>
   self (wH,(I.wrap .i64 (I.add z2 1))))) n ((I.aN x4.kind 5),0)
 else
  k (l1,z2)
def sO(I:Pr)(M:Md)(n:Nat)(a0:List aI):Option (List Bool):=
 iter (lR I M n a0 (fun(Mq,EI)=>
  some Mq)) n ([],0)
def ic(I:Pr)(M:Md)(n:Nat)(x1:aI)(IK:List Bool)(k:Int→Option Int)(self:Int→Option Int)(EI:Int):Option Int:=
 (some (au x1.args)).bind fun Qb=>
 bif (I.aU EI Qb)then
  (gI x1.args EI).bind fun Fv=>
  (gI IK Fv).bind fun dY=>
  bif dY then
  some 7
  else
  self (I.wrap .i64 (I.add EI 1))
 else
  k EI
def ig(I:Pr)(M:Md)(n:Nat)(a3:Int)(x1:aI)(k:Int→Option Int)(self:Int→Option Int)(z7:Int):Option Int:=
 (some (au x1.args)).bind fun n8=>
 bif (I.aU z7 n8)then
  (gI x1.args z7).bind fun x9=>
  (ew I M n x9 0 (I.wrap .i64 (I.sub a3 1))).bind fun qT=>
  bif qT then
  some 1
  else
  self (I.wrap .i64 (I.add z7 1))
 else
  k z7
def ko(I:Pr)(M:Md)(n:Nat)(a0:ai)(a1:aj)(a2:ag)(a3:Int):Option Int:=
 (gI a2.ops a3).bind fun x1=>
 (ew I M n x1.kind 1 5).bind fun y2=>
 bif y2 then
 some 3
 else
 (cL (I.pick (I.rG x1.kind 2) (I.not (I.seq x1.name (⟨#[]⟩:ByteArray))) false) false (cL (I.aU 2 x1.kind) true (lh I M n x1.name) default) default).bind fun y3=>
 bif (I.pick (I.pick (I.rG x1.kind 2) (I.not (I.seq x1.name (⟨#[]⟩:ByteArray))) false) true (I.pick (I.aU 2 x1.kind) (I.not y3) false))then
  some 4
 else
  (cL (I.aN x1.kind 1) true (ew I M n x1.num 0 (I.wrap .i64 (I.sub a1.arity 1))) default).bind fun y4=>
  (cL (I.pick (I.aN x1.kind 1) y4 false) false (cL (I.aN x1.kind 2) true (ew I M n x1.num 0 (I.wrap .i64 (I.sub a2.kids 1))) default) default).bind fun y5=>
  bif (I.pick (I.pick (I.pick (I.aN x1.kind 1) y4 false) true (I.pick (I.aN x1.kind 2) y5 false)) true (I.pick (I.aU 2 x1.kind) (I.not (I.aN x1.num 0)) false))then
  some 1
  else
  (some (au x1.args)).bind fun n6=>
  bif (I.pick (I.pick (I.rG x1.kind 2) (I.aU 0 n6) false) true (I.pick (I.aN x1.kind 3) (I.aU 4 n6) false))then
   some 2
  else
   iter (ig I M n a3 x1 (fun Fq=>
    bif (I.rG x1.kind 3)then
    some 0
    else
    (m0 I M n a0 x1.name).bind fun CG=>
    bif (I.aU CG 0)then
     some 1
    else
     (some (au x1.args)).bind fun n13=>
     (gI a0.blocks CG).bind fun uk=>
     bif (I.not (I.aN n13 uk.arity))then
     some 7
     else
     (Ej a2.ops 0 a3).bind fun wH=>
     (sO I M n wH).bind fun IK=>
     iter (ic I M n x1 IK (fun z21=>
      some 0)) n 0)) n 0
def kq(I:Pr)(M:Md)(n:Nat)(a0:ai)(wC:ag)(nz:Int)(k:Int→Option Int)(self:Int→Option Int)(ey:Int):Option Int:=
 (some (au wC.ops)).bind fun n20=>
 bif (I.aU ey n20)then
  (gI a0.blocks nz).bind fun wQ=>
  (ko I M n (⟨a0.blocks⟩:ai) wQ wC ey).bind fun UW=>
  bif (I.not (I.aN UW 0))then
  some UW
  else
  self (I.wrap .i64 (I.add ey 1))
 else
  k ey
def kr(I:Pr)(M:Md)(n:Nat)(a0:ai)(nz:Int)(k:Int→Option Int)(self:Int→Option Int)(uh:Int):Option Int:=
 (gI a0.blocks nz).bind fun x16=>
 (some (au x16.af)).bind fun S3=>
 bif (I.aU uh S3)then
  (gI x16.af uh).bind fun wC=>
  iter (kq I M n a0 wC nz (fun z23=>
   (some (au wC.ops)).bind fun n24=>
   (ew I M n wC.result 0 (I.wrap .i64 (I.sub n24 1))).bind fun Vm=>
   bif Vm then
   some 1
   else
   self (I.wrap .i64 (I.add uh 1)))) n 0
 else
  k uh
def ku(I:Pr)(M:Md)(n:Nat)(a0:ai)(k:Int→Option Int)(self:Int→Option Int)(nz:Int):Option Int:=
 (some (au a0.blocks)).bind fun JI=>
 bif (I.aU nz JI)then
  iter (kr I M n a0 nz (fun CD=>
   self (I.wrap .i64 (I.add nz 1)))) n 0
 else
  k nz
def kx(I:Pr)(M:Md)(n:Nat)(a0:ai)(k:Int→Option Int)(self:Int→Option Int)(z8:Int):Option Int:=
 (some (au a0.blocks)).bind fun n9=>
 bif (I.aU z8 n9)then
  (gI a0.blocks z8).bind fun vX=>
  (m0 I M n a0 vX.name).bind fun rJ=>
  bif (I.aU rJ z8)then
  some 5
  else
  self (I.wrap .i64 (I.add z8 1))
 else
  k z8
def ky(I:Pr)(M:Md)(n:Nat)(a0:ai)(k:Int→Option Int)(self:Int→Option Int)(z3:Int):Option Int:=
 (some (au a0.blocks)).bind fun n4=>
 bif (I.aU z3 n4)then
  (gI a0.blocks z3).bind fun x5=>
  (jy I M n x5).bind fun y6=>
  bif (I.not (I.aN y6 0))then
  some y6
  else
  self (I.wrap .i64 (I.add z3 1))
 else
  k z3
def nI(I:Pr)(M:Md)(n:Nat)(a0:ai):Option Int:=
 (some (au a0.blocks)).bind fun n1=>
 (ew I M n n1 1 12).bind fun y2=>
 bif y2 then
 some 2
 else
 iter (ky I M n a0 (fun z7=>
  iter (kx I M n a0 (fun K4=>
   iter (ku I M n a0 (fun z27=>
    some 0)) n 0)) n 0)) n 0
def yG(I:Pr)(M:Md)(n:Nat)(a0:ag)(l2:List Bool)(z4:Int)(k:(List Bool)×Int→Option (List Bool))(self:(List Bool)×Int→Option (List Bool))(st:(List Bool)×Int):Option (List Bool):=
 match st with
 |(l9,yp)=>
 (gI a0.ops z4).bind fun Fw=>
 (some (au Fw.args)).bind fun U7=>
 bif (I.aU yp U7)then
  (gI Fw.args yp).bind fun CL=>
  (gN (M.ln l2) CL).bind fun k14=>
  (gK l9 k14).bind fun ym=>
  (cL ym false (gN (M.ln l2) z4) default).bind fun k16=>
  (cL ym false (gK l9 k16) default).bind fun qf=>
  (fU l9 k14 (I.pick ym true qf)).bind fun qF=>
  self (qF,(I.wrap .i64 (I.add yp 1)))
 else
  k (l9,yp)
def yH(I:Pr)(M:Md)(n:Nat)(a0:ag)(l2:List Bool)(k:(List Bool)×Int→Option (List Bool))(self:(List Bool)×Int→Option (List Bool))(st:(List Bool)×Int):Option (List Bool):=
 match st with
 |(l3,z4)=>
 bif (I.rG 0 z4)then
  (gN (M.ln l2) z4).bind fun k5=>
  (gK l3 k5).bind fun x6=>
  (cL (I.pick x6 true (I.aN z4 a0.result)) false (gI a0.ops z4) default).bind fun x7=>
  (fU l3 k5 (I.pick (I.pick x6 true (I.aN z4 a0.result)) true (I.aU 3 x7.kind))).bind fun l8=>
  iter (yG I M n a0 l2 z4 (fun(HP,AS)=>
   self (HP,(I.wrap .i64 (I.sub z4 1))))) n (l8,0)
 else
  k (l3,z4)
def De(I:Pr)(M:Md)(n:Nat)(a0:ag):Option (List Bool):=
 (some (au a0.ops)).bind fun n1=>
 (xd 1 n1 false).bind fun l2=>
 iter (yH I M n a0 l2 (fun(u9,BJ)=>
  (eu (M.ln l2) u9).bind fun OL=>
  some u9)) n (l2,(I.wrap .i64 (I.sub n1 1)))
def iZ(I:Pr)(M:Md)(n:Nat)(a0:aI)(a1:List Int)(k:(List Int)×Int→Option aI)(self:(List Int)×Int→Option aI)(st:(List Int)×Int):Option aI:=
 match st with
 |(l1,z2)=>
 (some (au a0.args)).bind fun n3=>
 bif (I.aU z2 n3)then
  (gI a0.args z2).bind fun x4=>
  (gI a1 x4).bind fun x5=>
  (aL 8 l1 x5).bind fun l6=>
  self (l6,(I.wrap .i64 (I.add z2 1)))
 else
  k (l1,z2)
def ei(I:Pr)(M:Md)(n:Nat)(a0:aI)(a1:List Int):Option aI:=
 iter (iZ I M n a0 a1 (fun(l7,z8)=>
  some (⟨a0.kind,a0.name,a0.num,l7⟩:aI))) n ([],0)
def tN(I:Pr)(M:Md)(n:Nat)(a0:ag)(l3:List Int)(y1:List Bool)(k:(List Int)×(List aI)×Int→Option ag)(self:(List Int)×(List aI)×Int→Option ag)(st:(List Int)×(List aI)×Int):Option ag:=
 match st with
 |(l4,l5,z6)=>
 (some (au a0.ops)).bind fun n7=>
 bif (I.aU z6 n7)then
  (gI y1 z6).bind fun x8=>
  bif x8 then
  (some (au l5)).bind fun n9=>
  (gN (M.ln l3) z6).bind fun ZU=>
  (gK l4 ZU).bind fun Fw=>
  (fU l4 ZU n9).bind fun iJ=>
  (gI a0.ops z6).bind fun CL=>
  (eu (M.ln l3) iJ).bind fun u14=>
  (ei I M n CL iJ).bind fun Ft=>
  (aL 56 l5 Ft).bind fun Mq=>
  self (iJ,Mq,(I.wrap .i64 (I.add z6 1)))
  else
  self (l4,l5,(I.wrap .i64 (I.add z6 1)))
 else
  k (l4,l5,z6)
def wW(I:Pr)(M:Md)(n:Nat)(a0:ag):Option ag:=
 (De I M n a0).bind fun y1=>
 (some (au a0.ops)).bind fun n2=>
 (xd 8 n2 0).bind fun l3=>
 iter (tN I M n a0 l3 y1 (fun(tT,qF,ey)=>
  (gN (M.ln l3) a0.result).bind fun k20=>
  (gK tT k20).bind fun wQ=>
  some (⟨a0.head,a0.kids,qF,wQ⟩:ag))) n (l3,[],0)
def yF(I:Pr)(M:Md)(n:Nat)(a0:aI)(a1:aI)(k:Int→Option Bool)(self:Int→Option Bool)(z3:Int):Option Bool:=
 (some (au a0.args)).bind fun n4=>
 bif (I.aU z3 n4)then
  (gI a0.args z3).bind fun x5=>
  (gI a1.args z3).bind fun x6=>
  bif (I.not (I.aN x5 x6))then
  some false
  else
  self (I.wrap .i64 (I.add z3 1))
 else
  k z3
def Dd(I:Pr)(M:Md)(n:Nat)(a0:aI)(a1:aI):Option Bool:=
 (some (au a0.args)).bind fun n1=>
 (some (au a1.args)).bind fun n2=>
 bif (I.pick (I.pick (I.pick (I.not (I.aN a0.kind a1.kind)) true (I.not (I.seq a0.name a1.name))) true (I.not (I.aN a0.num a1.num))) true (I.not (I.aN n1 n2)))then
 some false
 else
 iter (yF I M n a0 a1 (fun z7=>
  some true)) n 0
def uy(I:Pr)(M:Md)(n:Nat)(l4:List aI)(y9:aI)(k:Int×Int→Option ag)(self:Int×Int→Option ag)(st:Int×Int):Option ag:=
 match st with
 |(yp,Fq)=>
 (some (au l4)).bind fun U7=>
 bif (I.pick (I.aU Fq U7) (I.aU yp 0) false)then
  (gI l4 Fq).bind fun CL=>
  (Dd I M n CL y9).bind fun EK=>
  bif EK then
  self (Fq,(I.wrap .i64 (I.add Fq 1)))
  else
  self (yp,(I.wrap .i64 (I.add Fq 1)))
 else
  k (yp,Fq)
def uz(I:Pr)(M:Md)(n:Nat)(a0:ag)(l2:List Int)(k:(List Int)×(List aI)×Int→Option ag)(self:(List Int)×(List aI)×Int→Option ag)(st:(List Int)×(List aI)×Int):Option ag:=
 match st with
 |(l3,l4,z5)=>
 (some (au a0.ops)).bind fun n6=>
 bif (I.aU z5 n6)then
  (gI a0.ops z5).bind fun x7=>
  (eu (M.ln l2) l3).bind fun u8=>
  (ei I M n x7 l3).bind fun y9=>
  iter (uy I M n l4 y9 (fun(uh,jV)=>
   bif (I.aU uh 0)then
   (some (au l4)).bind fun S3=>
   (aL 56 l4 y9).bind fun qF=>
   (gN (M.ln l2) z5).bind fun k19=>
   (gK l3 k19).bind fun dY=>
   (fU l3 k19 S3).bind fun u9=>
   self (u9,qF,(I.wrap .i64 (I.add z5 1)))
   else
   (gN (M.ln l2) z5).bind fun k22=>
   (gK l3 k22).bind fun x23=>
   (fU l3 k22 uh).bind fun KQ=>
   self (KQ,l4,(I.wrap .i64 (I.add z5 1))))) n ((-1),0)
 else
  k (l3,l4,z5)
def yE(I:Pr)(M:Md)(n:Nat)(a0:ag):Option ag:=
 (some (au a0.ops)).bind fun n1=>
 (xd 8 n1 0).bind fun l2=>
 iter (uz I M n a0 l2 (fun(Mp,JW,z27)=>
  (gN (M.ln l2) a0.result).bind fun k28=>
  (gK Mp k28).bind fun qc=>
  some (⟨a0.head,a0.kids,JW,qc⟩:ag))) n (l2,[],0)
def ja(I:Pr)(M:Md)(n:Nat)(a0:aI):Option Bool:=
 some (I.pick (I.aN a0.kind 4) true (I.aN a0.kind 5))
def kj(I:Pr)(M:Md)(n:Nat)(a0:ag)(k:Int→Option Bool)(self:Int→Option Bool)(z1:Int):Option Bool:=
 (some (au a0.ops)).bind fun n2=>
 bif (I.aU z1 n2)then
  (gI a0.ops z1).bind fun x3=>
  (ja I M n x3).bind fun y4=>
  bif y4 then
  some false
  else
  self (I.wrap .i64 (I.add z1 1))
 else
  k z1
def lg(I:Pr)(M:Md)(n:Nat)(a0:ag):Option Bool:=
 iter (kj I M n a0 (fun z5=>
  some true)) n 0
def nG(I:Pr)(M:Md)(n:Nat)(a0:aj):Option Bool:=
 (some (au a0.af)).bind fun n1=>
 (cL (I.aN n1 1) true (gI a0.af 0) default).bind fun x2=>
 (cL (I.pick (I.aN n1 1) (I.seq x2.head (⟨#[]⟩:ByteArray)) false) true (gI a0.af 0) default).bind fun x3=>
 (cL (I.pick (I.aN n1 1) (I.seq x2.head (⟨#[]⟩:ByteArray)) false) true (lg I M n (⟨x3.head,x3.kids,x3.ops,x3.result⟩:ag)) default).bind fun y4=>
 some (I.pick (I.pick (I.aN n1 1) (I.seq x2.head (⟨#[]⟩:ByteArray)) false) y4 false)
def oY(I:Pr)(M:Md)(n:Nat)(a0:aj)(x6:aI)(k:Int→Option Int)(self:Int→Option Int)(z7:Int):Option Int:=
 (some (au a0.af)).bind fun n8=>
 bif (I.aU z7 n8)then
  (gI a0.af z7).bind fun x9=>
  (cL (I.seq x9.head x6.name) true (gI a0.af z7) default).bind fun vX=>
  (some (au x6.args)).bind fun ub=>
  (cL (I.pick (I.seq x9.head x6.name) (I.aN vX.kids ub) false) true (gI a0.af z7) default).bind fun tK=>
  (cL (I.pick (I.seq x9.head x6.name) (I.aN vX.kids ub) false) true (lg I M n tK) default).bind fun ov=>
  bif (I.pick (I.pick (I.seq x9.head x6.name) (I.aN vX.kids ub) false) ov false)then
  some z7
  else
  self (I.wrap .i64 (I.add z7 1))
 else
  k z7
def pF(I:Pr)(M:Md)(n:Nat)(a0:aj)(a1:aI)(a2:List aI)(a3:Bool):Option Int:=
 bif (I.not a3)then
 (nG I M n (⟨a0.name,a0.arity,a0.af⟩:aj)).bind fun y1=>
 bif y1 then
  some 0
 else
  some (-1)
 else
 (gI a0.af 0).bind fun x2=>
 (cL (I.seq x2.head (⟨#[]⟩:ByteArray)) false (gI a1.args 0) default).bind fun x3=>
 (cL (I.seq x2.head (⟨#[]⟩:ByteArray)) false (gI a2 x3) default).bind fun x4=>
 bif (I.pick (I.seq x2.head (⟨#[]⟩:ByteArray)) true (I.not (I.aN x4.kind 3)))then
  some (-1)
 else
  (gI a1.args 0).bind fun x5=>
  (gI a2 x5).bind fun x6=>
  iter (oY I M n a0 x6 (fun eg=>
   some (-1))) n 0
def ld(I:Pr)(M:Md)(n:Nat)(Ti:List Int)(uk:ag)(y9:aI)(k:(List Int)×(List aI)×Int→Option ag)(self:(List Int)×(List aI)×Int→Option ag)(st:(List Int)×(List aI)×Int):Option ag:=
 match st with
 |(EJ,E9,CC)=>
 (some (au uk.ops)).bind fun ZN=>
 bif (I.aU CC ZN)then
  (gI uk.ops CC).bind fun Zs=>
  bif (I.aN Zs.kind 1)then
  (gI y9.args Zs.num).bind fun oV=>
  (gN (M.ln Ti) CC).bind fun k36=>
  (gK EJ k36).bind fun x37=>
  (fU EJ k36 oV).bind fun l38=>
  self (l38,E9,(I.wrap .i64 (I.add CC 1)))
  else
  bif (I.aN Zs.kind 2)then
   (gI y9.args 0).bind fun x39=>
   (gI E9 x39).bind fun x40=>
   (gI x40.args Zs.num).bind fun Lb=>
   (gN (M.ln Ti) CC).bind fun k42=>
   (gK EJ k42).bind fun x43=>
   (fU EJ k42 Lb).bind fun E8=>
   self (E8,E9,(I.wrap .i64 (I.add CC 1)))
  else
   (some (au E9)).bind fun JH=>
   (gN (M.ln Ti) CC).bind fun k46=>
   (gK EJ k46).bind fun La=>
   (fU EJ k46 JH).bind fun Mo=>
   (eu (M.ln Ti) Mo).bind fun u49=>
   (ei I M n Zs Mo).bind fun Vl=>
   (aL 56 E9 Vl).bind fun U9=>
   self (Mo,U9,(I.wrap .i64 (I.add CC 1)))
 else
  k (EJ,E9,CC)
def lf(I:Pr)(M:Md)(n:Nat)(uk:ag)(k:Int×Int→Option ag)(self:Int×Int→Option ag)(st:Int×Int):Option ag:=
 match st with
 |(uh,jV)=>
 (some (au uk.ops)).bind fun S3=>
 bif (I.aU jV S3)then
  (gI uk.ops jV).bind fun wC=>
  (cL (I.not (I.aN wC.kind 1)) true (gI uk.ops jV) default).bind fun Fv=>
  bif (I.pick (I.not (I.aN wC.kind 1)) (I.not (I.aN Fv.kind 2)) false)then
  self ((I.wrap .i64 (I.add uh 1)),(I.wrap .i64 (I.add jV 1)))
  else
  self (uh,(I.wrap .i64 (I.add jV 1)))
 else
  k (uh,jV)
def Ba(I:Pr)(M:Md)(n:Nat)(k:Unit→Option ag)(self:Unit→Option ag)(st:Unit):Option ag:=
 match st with
 |()=>
 k ()
def uB(I:Pr)(M:Md)(n:Nat)(k:Unit→Option ag)(self:Unit→Option ag)(st:Unit):Option ag:=
 match st with
 |()=>
 k ()
def A9(I:Pr)(M:Md)(n:Nat)(k:Unit→Option ag)(self:Unit→Option ag)(st:Unit):Option ag:=
 match st with
 |()=>
 k ()
def uA(I:Pr)(M:Md)(n:Nat)(k:Unit→Option ag)(self:Unit→Option ag)(st:Unit):Option ag:=
 match st with
 |()=>
 k ()
def nH(I:Pr)(M:Md)(n:Nat)(a0:ai)(a1:ag)(a2:Bool)(l2:List Int)(k:(List Int)×(List aI)×Int→Option ag)(self:(List Int)×(List aI)×Int→Option ag)(st:(List Int)×(List aI)×Int):Option ag:=
 match st with
 |(l3,l4,z5)=>
 (some (au a1.ops)).bind fun n6=>
 bif (I.aU z5 n6)then
  (gI a1.ops z5).bind fun x7=>
  (eu (M.ln l2) l3).bind fun u8=>
  (ei I M n x7 l3).bind fun y9=>
  (ja I M n y9).bind fun qT=>
  bif qT then
  (m0 I M n (⟨a0.blocks⟩:ai) y9.name).bind fun rJ=>
  (gI a0.blocks rJ).bind fun tK=>
  (pF I M n tK y9 l4 a2).bind fun ov=>
  bif (I.rG 0 ov)then
   (gI tK.af ov).bind fun uk=>
   iter (lf I M n uk (fun(AS,z21)=>
    (some (au l4)).bind fun S2=>
    (some (au a1.ops)).bind fun Xb=>
    bif (I.pick (I.aU ov 0) true (I.aU 60 (I.wrap .i64 (I.sub (I.wrap .i64 (I.sub (I.wrap .i64 (I.add (I.wrap .i64 (I.add S2 AS)) Xb)) 1)) z5))))then
    (gN (M.ln l2) z5).bind fun Xs=>
    (gK l3 Xs).bind fun zP=>
    (fU l3 Xs S2).bind fun JW=>
    (aL 56 l4 y9).bind fun oQ=>
    self (JW,oQ,(I.wrap .i64 (I.add z5 1)))
    else
    (some (au uk.ops)).bind fun n28=>
    (xd 8 n28 0).bind fun Ti=>
    iter (ld I M n Ti uk y9 (fun(l52,l53,z54)=>
     (gN (M.ln Ti) uk.result).bind fun k55=>
     (gK l52 k55).bind fun x56=>
     (gN (M.ln l2) z5).bind fun Tp=>
     (gK l3 Tp).bind fun UZ=>
     (fU l3 Tp x56).bind fun JU=>
     self (JU,l53,(I.wrap .i64 (I.add z5 1))))) n (Ti,l4,0))) n (0,0)
  else
   iter (uB I M n (fun _=>
    (some (au l4)).bind fun n60=>
    (some (au a1.ops)).bind fun W7=>
    bif (I.pick (I.aU ov 0) true (I.aU 60 (I.wrap .i64 (I.sub (I.wrap .i64 (I.sub (I.wrap .i64 (I.add (I.wrap .i64 (I.add n60 0)) W7)) 1)) z5))))then
    (gN (M.ln l2) z5).bind fun k62=>
    (gK l3 k62).bind fun x63=>
    (fU l3 k62 n60).bind fun Pm=>
    (aL 56 l4 y9).bind fun Te=>
    self (Pm,Te,(I.wrap .i64 (I.add z5 1)))
    else
    (xd 8 0 0).bind fun NU=>
    iter (Ba I M n (fun _=>
     (gN (M.ln NU) 0).bind fun k67=>
     (gK NU k67).bind fun Vq=>
     (gN (M.ln l2) z5).bind fun Va=>
     (gK l3 Va).bind fun Vp=>
     (fU l3 Va Vq).bind fun HM=>
     self (HM,l4,(I.wrap .i64 (I.add z5 1))))) n ())) n ()
  else
  iter (uA I M n (fun _=>
   (some (au l4)).bind fun ZK=>
   (some (au a1.ops)).bind fun n73=>
   bif (I.pick (I.aU (-1) 0) true (I.aU 60 (I.wrap .i64 (I.sub (I.wrap .i64 (I.sub (I.wrap .i64 (I.add (I.wrap .i64 (I.add ZK 0)) n73)) 1)) z5))))then
    (gN (M.ln l2) z5).bind fun k74=>
    (gK l3 k74).bind fun x75=>
    (fU l3 k74 ZK).bind fun Xi=>
    (aL 56 l4 y9).bind fun l77=>
    self (Xi,l77,(I.wrap .i64 (I.add z5 1)))
   else
    (xd 8 0 0).bind fun HL=>
    iter (A9 I M n (fun _=>
     (gN (M.ln HL) 0).bind fun k79=>
     (gK HL k79).bind fun x80=>
     (gN (M.ln l2) z5).bind fun k81=>
     (gK l3 k81).bind fun x82=>
     (fU l3 k81 x80).bind fun l83=>
     self (l83,l4,(I.wrap .i64 (I.add z5 1))))) n ())) n ()
 else
  k (l3,l4,z5)
def rQ(I:Pr)(M:Md)(n:Nat)(a0:ai)(a1:ag)(a2:Bool):Option ag:=
 (some (au a1.ops)).bind fun n1=>
 (xd 8 n1 0).bind fun l2=>
 iter (nH I M n a0 a1 a2 l2 (fun(zQ,Bj,II)=>
  (gN (M.ln l2) a1.result).bind fun k87=>
  (gK zQ k87).bind fun UX=>
  some (⟨a1.head,a1.kids,Bj,UX⟩:ag))) n (l2,[],0)
def rS(I:Pr)(M:Md)(n:Nat)(a0:ag)(l2:List Bool)(z4:Int)(k:(List Bool)×Int→Option ag)(self:(List Bool)×Int→Option ag)(st:(List Bool)×Int):Option ag:=
 match st with
 |(l5,z6)=>
 (gI a0.ops z4).bind fun x7=>
 (some (au x7.args)).bind fun n8=>
 bif (I.aU z6 n8)then
  (ja I M n x7).bind fun y9=>
  (cL y9 false (gI a0.ops z4) default).bind fun vX=>
  (cL y9 false (cL (I.aN vX.kind 3) true (gN (M.ln l2) z4) default) default).bind fun k11=>
  (cL y9 false (cL (I.aN vX.kind 3) true (gK l5 k11) default) default).bind fun tK=>
  bif (I.pick y9 true (I.pick (I.aN vX.kind 3) tK false))then
  (gI x7.args z6).bind fun CL=>
  (gN (M.ln l2) CL).bind fun k14=>
  (gK l5 k14).bind fun ym=>
  (fU l5 k14 true).bind fun Mq=>
  self (Mq,(I.wrap .i64 (I.add z6 1)))
  else
  self (l5,(I.wrap .i64 (I.add z6 1)))
 else
  k (l5,z6)
def rR(I:Pr)(M:Md)(n:Nat)(a0:ag)(HP:List Bool)(l2:List Bool)(k:(List aI)×Int→Option ag)(self:(List aI)×Int→Option ag)(st:(List aI)×Int):Option ag:=
 match st with
 |(u9,BJ)=>
 (some (au a0.ops)).bind fun Xb=>
 bif (I.aU BJ Xb)then
  (gI a0.ops BJ).bind fun IW=>
  (cL (I.aN IW.kind 4) true (gN (M.ln l2) BJ) default).bind fun k25=>
  (cL (I.aN IW.kind 4) true (gK HP k25) default).bind fun x26=>
  bif (I.pick (I.aN IW.kind 4) (I.not x26) false)then
  (aL 56 u9 (⟨5,IW.name,IW.num,IW.args⟩:aI)).bind fun oQ=>
  self (oQ,(I.wrap .i64 (I.add BJ 1)))
  else
  (aL 56 u9 IW).bind fun sV=>
  self (sV,(I.wrap .i64 (I.add BJ 1)))
 else
  k (u9,BJ)
def rT(I:Pr)(M:Md)(n:Nat)(a0:ag)(l2:List Bool)(k:(List Bool)×Int→Option ag)(self:(List Bool)×Int→Option ag)(st:(List Bool)×Int):Option ag:=
 match st with
 |(l3,z4)=>
 bif (I.rG 0 z4)then
  iter (rS I M n a0 l2 z4 (fun(tT,z18)=>
   self (tT,(I.wrap .i64 (I.sub z4 1))))) n (l3,0)
 else
  k (l3,z4)
def uC(I:Pr)(M:Md)(n:Nat)(a0:ag):Option ag:=
 (some (au a0.ops)).bind fun n1=>
 (xd 1 n1 false).bind fun l2=>
 iter (rT I M n a0 l2 (fun(HP,AS)=>
  iter (rR I M n a0 HP l2 (fun(Ti,z30)=>
   some (⟨a0.head,a0.kids,Ti,a0.result⟩:ag))) n ([],0))) n (l2,(I.wrap .i64 (I.sub n1 1)))
def ej(I:Pr)(M:Md)(n:Nat)(a0:ai)(a1:Int)(z2:Int)(k:(List ag)×Int→Option ai)(self:(List ag)×Int→Option ai)(st:(List ag)×Int):Option ai:=
 match st with
 |(l5,z6)=>
 (gI a0.blocks z2).bind fun x7=>
 (some (au x7.af)).bind fun n8=>
 bif (I.aU z6 n8)then
  (gI x7.af z6).bind fun x9=>
  bif (I.aN a1 1)then
  (wW I M n x9).bind fun qT=>
  (aL 56 l5 qT).bind fun IB=>
  self (IB,(I.wrap .i64 (I.add z6 1)))
  else
  bif (I.aN a1 2)then
   (yE I M n x9).bind fun CG=>
   (aL 56 l5 CG).bind fun wI=>
   self (wI,(I.wrap .i64 (I.add z6 1)))
  else
   bif (I.aN a1 3)then
   (rQ I M n (⟨a0.blocks⟩:ai) x9 false).bind fun EK=>
   (aL 56 l5 EK).bind fun wH=>
   self (wH,(I.wrap .i64 (I.add z6 1)))
   else
   bif (I.aN a1 4)then
    (rQ I M n (⟨a0.blocks⟩:ai) x9 true).bind fun IK=>
    (aL 56 l5 IK).bind fun tT=>
    self (tT,(I.wrap .i64 (I.add z6 1)))
   else
    bif (I.aN a1 5)then
    (uC I M n x9).bind fun QC=>
    (aL 56 l5 QC).bind fun HP=>
    self (HP,(I.wrap .i64 (I.add z6 1)))
    else
    (aL 56 l5 x9).bind fun Tj=>
    self (Tj,(I.wrap .i64 (I.add z6 1)))
 else
  k (l5,z6)
def lQ(I:Pr)(M:Md)(n:Nat)(a0:ai)(a1:Int)(k:(List aj)×Int→Option ai)(self:(List aj)×Int→Option ai)(st:(List aj)×Int):Option ai:=
 match st with
 |(l1,z2)=>
 (some (au a0.blocks)).bind fun n3=>
 bif (I.aU z2 n3)then
  (gI a0.blocks z2).bind fun x4=>
  iter (ej I M n a0 a1 z2 (fun(u9,BJ)=>
   (aL 48 l1 (⟨x4.name,x4.arity,u9⟩:aj)).bind fun xS=>
   self (xS,(I.wrap .i64 (I.add z2 1))))) n ([],0)
 else
  k (l1,z2)
def jc(I:Pr)(M:Md)(n:Nat)(a0:ai)(a1:Int):Option ai:=
 iter (lQ I M n a0 a1 (fun(KQ,z25)=>
  some (⟨KQ⟩:ai))) n ([],0)
def gD(I:Pr)(M:Md)(n:Nat)(x5:aI)(x6:aI)(k:Int→Option Bool)(self:Int→Option Bool)(z9:Int):Option Bool:=
 (some (au x5.args)).bind fun JJ=>
 bif (I.aU z9 JJ)then
  (gI x5.args z9).bind fun Fw=>
  (gI x6.args z9).bind fun tK=>
  bif (I.not (I.aN Fw tK))then
  some false
  else
  self (I.wrap .i64 (I.add z9 1))
 else
  k z9
def gE(I:Pr)(M:Md)(n:Nat)(a0:ag)(a1:ag)(k:Int→Option Bool)(self:Int→Option Bool)(z3:Int):Option Bool:=
 (some (au a0.ops)).bind fun n4=>
 bif (I.aU z3 n4)then
  (gI a0.ops z3).bind fun x5=>
  (gI a1.ops z3).bind fun x6=>
  (some (au x5.args)).bind fun n7=>
  (some (au x6.args)).bind fun n8=>
  bif (I.pick (I.pick (I.pick (I.not (I.aN x5.kind x6.kind)) true (I.not (I.seq x5.name x6.name))) true (I.not (I.aN x5.num x6.num))) true (I.not (I.aN n7 n8)))then
  some false
  else
  iter (gD I M n x5 x6 (fun nz=>
   self (I.wrap .i64 (I.add z3 1)))) n 0
 else
  k z3
def jx(I:Pr)(M:Md)(n:Nat)(a0:ag)(a1:ag):Option Bool:=
 (some (au a0.ops)).bind fun n1=>
 (some (au a1.ops)).bind fun n2=>
 bif (I.pick (I.pick (I.pick (I.not (I.seq a0.head a1.head)) true (I.not (I.aN a0.kids a1.kids))) true (I.not (I.aN a0.result a1.result))) true (I.not (I.aN n1 n2)))then
 some false
 else
 iter (gE I M n a0 a1 (fun eg=>
  some true)) n 0
def oZ(I:Pr)(M:Md)(n:Nat)(x5:aj)(x6:aj)(k:Int→Option Bool)(self:Int→Option Bool)(z9:Int):Option Bool:=
 (some (au x5.af)).bind fun JJ=>
 bif (I.aU z9 JJ)then
  (gI x5.af z9).bind fun Fw=>
  (gI x6.af z9).bind fun tK=>
  (jx I M n Fw tK).bind fun ov=>
  bif (I.not ov)then
  some false
  else
  self (I.wrap .i64 (I.add z9 1))
 else
  k z9
def o5(I:Pr)(M:Md)(n:Nat)(a0:ai)(a1:ai)(k:Int→Option Bool)(self:Int→Option Bool)(z3:Int):Option Bool:=
 (some (au a0.blocks)).bind fun n4=>
 bif (I.aU z3 n4)then
  (gI a0.blocks z3).bind fun x5=>
  (gI a1.blocks z3).bind fun x6=>
  (some (au x5.af)).bind fun n7=>
  (some (au x6.af)).bind fun n8=>
  bif (I.pick (I.pick (I.not (I.seq x5.name x6.name)) true (I.not (I.aN x5.arity x6.arity))) true (I.not (I.aN n7 n8)))then
  some false
  else
  iter (oZ I M n x5 x6 (fun eg=>
   self (I.wrap .i64 (I.add z3 1)))) n 0
 else
  k z3
def bF(I:Pr)(M:Md)(n:Nat)(a0:ai)(a1:ai):Option Bool:=
 (some (au a0.blocks)).bind fun n1=>
 (some (au a1.blocks)).bind fun n2=>
 bif (I.not (I.aN n1 n2))then
 some false
 else
 iter (o5 I M n a0 a1 (fun uh=>
  some true)) n 0
def km(I:Pr)(M:Md)(n:Nat)(a0:ai)(k:(List Bool)×Int→Option (List Bool))(self:(List Bool)×Int→Option (List Bool))(st:(List Bool)×Int):Option (List Bool):=
 match st with
 |(l1,z2)=>
 (some (au a0.blocks)).bind fun n3=>
 bif (I.aU z2 n3)then
  (gI a0.blocks z2).bind fun x4=>
  (nG I M n x4).bind fun y5=>
  (aL 1 l1 y5).bind fun l6=>
  self (l6,(I.wrap .i64 (I.add z2 1)))
 else
  k (l1,z2)
def qB(I:Pr)(M:Md)(n:Nat)(a0:ai):Option (List Bool):=
 iter (km I M n a0 (fun(l7,z8)=>
  some l7)) n ([],0)
def jg(I:Pr)(M:Md)(n:Nat)(a0:ai)(n2:Int)(k:Int×(List Bool)→Option ((List Bool)×Int))(self:Int×(List Bool)→Option ((List Bool)×Int))(st:Int×(List Bool)):Option ((List Bool)×Int):=
 match st with
 |(z3,l4)=>
 bif (I.aU z3 n2)then
  (gI a0.blocks z3).bind fun x5=>
  (fk I M n x5).bind fun y6=>
  (aL 1 l4 y6).bind fun l7=>
  self ((I.wrap .i64 (I.add z3 1)),l7)
 else
  k (z3,l4)
def mb(I:Pr)(M:Md)(n:Nat)(a0:ai):Option ((List Bool)×Int):=
 (dk I M n a0).bind fun y1=>
 bif (I.not (I.aN y1 0))then
 some ([],y1)
 else
 (some (au a0.blocks)).bind fun n2=>
 iter (jg I M n a0 n2 (fun(z8,l9)=>
  some (l9,0))) n (0,[])
def fI(I:Pr)(M:Md)(n:Nat)(a0:List Bool)(a1:List Bool)(n1:Int)(k:Int→Option Bool)(self:Int→Option Bool)(z3:Int):Option Bool:=
 bif (I.aU z3 n1)then
  (gI a0 z3).bind fun x4=>
  (gI a1 z3).bind fun x5=>
  bif (I.not (I.beq x4 x5))then
  some false
  else
  self (I.wrap .i64 (I.add z3 1))
 else
  k z3
def iH(I:Pr)(M:Md)(n:Nat)(a0:List Bool)(a1:List Bool):Option Bool:=
 (some (au a0)).bind fun n1=>
 (some (au a1)).bind fun n2=>
 bif (I.not (I.aN n1 n2))then
 some false
 else
 iter (fI I M n a0 a1 n1 (fun z6=>
  some true)) n 0
def ly(I:Pr)(M:Md)(n:Nat)(a0:List Bool)(a1:List Bool):Option Bool:=
 (iH I M n a0 a1).bind fun y1=>
 some y1
def dT(I:Pr)(M:Md)(n:Nat)(a0:ai)(a2:List Int):Option Bool:=
 (pg I M n a0).bind fun y1=>
 (nI I M n a0).bind fun y2=>
 bif (I.aN y2 0)then
 (gI a2 0).bind fun x3=>
 (jc I M n a0 x3).bind fun y4=>
 (fA I M n y1).bind fun y5=>
 (cL (I.not (I.aN y5.2 y2)) false (bF I M n y5.1 y4) default).bind fun y6=>
 bif (I.pick (I.not (I.aN y5.2 y2)) true (I.not y6))then
  some false
 else
  (bF I M n y1 a0).bind fun y7=>
  bif (I.not y7)then
  some false
  else
  bif (I.aN y2 0)then
   (gI a2 1).bind fun x8=>
   (jc I M n a0 x8).bind fun y9=>
   (eo I M n y1).bind fun qT=>
   (cL (I.not (I.aN qT.2 y2)) false (bF I M n qT.1 y9) default).bind fun rJ=>
   bif (I.pick (I.not (I.aN qT.2 y2)) true (I.not rJ))then
   some false
   else
   (bF I M n y1 a0).bind fun CG=>
   bif (I.not CG)then
    some false
   else
    some true
  else
   (eo I M n y1).bind fun ov=>
   (cL (I.not (I.aN ov.2 y2)) false (bF I M n ov.1 (⟨[]⟩:ai)) default).bind fun EK=>
   bif (I.pick (I.not (I.aN ov.2 y2)) true (I.not EK))then
   some false
   else
   (bF I M n y1 a0).bind fun Ft=>
   bif (I.not Ft)then
    some false
   else
    some true
 else
 (fA I M n y1).bind fun IK=>
 (cL (I.not (I.aN IK.2 y2)) false (bF I M n IK.1 (⟨[]⟩:ai)) default).bind fun y17=>
 bif (I.pick (I.not (I.aN IK.2 y2)) true (I.not y17))then
  some false
 else
  (bF I M n y1 a0).bind fun QC=>
  bif (I.not QC)then
  some false
  else
  bif (I.aN y2 0)then
   (gI a2 1).bind fun Fv=>
   (jc I M n a0 Fv).bind fun Qa=>
   (eo I M n y1).bind fun Vn=>
   (cL (I.not (I.aN Vn.2 y2)) false (bF I M n Vn.1 Qa) default).bind fun UW=>
   bif (I.pick (I.not (I.aN Vn.2 y2)) true (I.not UW))then
   some false
   else
   (bF I M n y1 a0).bind fun y23=>
   bif (I.not y23)then
    some false
   else
    some true
  else
   (eo I M n y1).bind fun Zn=>
   (cL (I.not (I.aN Zn.2 y2)) false (bF I M n Zn.1 (⟨[]⟩:ai)) default).bind fun Vm=>
   bif (I.pick (I.not (I.aN Zn.2 y2)) true (I.not Vm))then
   some false
   else
   (bF I M n y1 a0).bind fun y26=>
   bif (I.not y26)then
    some false
   else
    some true
def nf(I:Pr)(M:Md)(n:Nat)(a0:ai):Option Bool:=
 (wj I M n a0).bind fun y1=>
 bif y1 then
 (nM I M n).bind fun y2=>
 some y2
 else
 (pg I M n a0).bind fun y3=>
 (nI I M n a0).bind fun y4=>
 bif (I.aN y4 0)then
  (qB I M n a0).bind fun y5=>
  (mb I M n (⟨y3.blocks⟩:ai)).bind fun y6=>
  (cL (I.aN y6.2 y4) true (ly I M n y6.1 y5) default).bind fun y7=>
  (cL (I.pick (I.aN y6.2 y4) y7 false) true (bF I M n (⟨y3.blocks⟩:ai) (⟨a0.blocks⟩:ai)) default).bind fun y8=>
  (cL (I.pick (I.pick (I.aN y6.2 y4) y7 false) y8 false) true (dT I M n a0 ([3,4])) default).bind fun y9=>
  (cL (I.pick (I.pick (I.pick (I.aN y6.2 y4) y7 false) y8 false) y9 false) true (nM I M n) default).bind fun qT=>
  some (I.pick (I.pick (I.pick (I.pick (I.aN y6.2 y4) y7 false) y8 false) y9 false) qT false)
 else
  (mb I M n (⟨y3.blocks⟩:ai)).bind fun rJ=>
  (cL (I.aN rJ.2 y4) true (ly I M n rJ.1 []) default).bind fun CG=>
  (cL (I.pick (I.aN rJ.2 y4) CG false) true (bF I M n (⟨y3.blocks⟩:ai) a0) default).bind fun ov=>
  (cL (I.pick (I.pick (I.aN rJ.2 y4) CG false) ov false) true (dT I M n a0 ([3,4])) default).bind fun EK=>
  (cL (I.pick (I.pick (I.pick (I.aN rJ.2 y4) CG false) ov false) EK false) true (nM I M n) default).bind fun Ft=>
  some (I.pick (I.pick (I.pick (I.pick (I.aN rJ.2 y4) CG false) ov false) EK false) Ft false)
end Ab
namespace Ab
theorem aht{α:Type}{enc:α→List AV}{M:Md}{r k:Nat}{l w:List α}(hM:M= .an)(q:some (l.take k)=some w){X:List (List AV)}(hX:X=List.take k (M.map enc l):=by first|rfl|rw[List.take.eq_def]):AV.sl r X=AV.sl r (M.map enc w):=by
 cases q;rw[hX];exact Q0 hM l k
end Ab
namespace Ab
open Go
def H4{α:Type}:List Bool→(List Bool→α)→α
 |[],k=>k []
 |true::r,k=>H4 r fun q=>k (true::q)
 |false::r,k=>H4 r fun q=>k (false::q)
theorem Az{α:Type}: ∀(l:List Bool) (k:List Bool→α),H4 l k=k l
 |[],_=>rfl
 |true::r,k=>Az r fun q=>k (true::q)
 |false::r,k=>Az r fun q=>k (false::q)
def AB{α:Type}(l:Array Bool)(k:Array Bool→α):α:=H4 l.toList fun r=>k ⟨r⟩
theorem AA{α:Type}(l:Array Bool)(k:Array Bool→α):AB l k=k l:=by
 unfold AB;rw[Az]
def Ce(cl:Nat→Bool)(ops:Array Oper):Tree→Nat→Array Bool→Option (List Nat)→Bool
 | .done,_,l,none=>(Region.ready .any ops l).isEmpty
 | .one i t,f+1,l,none=>G6 cl ops l i&&AB (l.setIfInBounds i true) fun q=>Ce cl ops t f q none
 | .fork i t u,f+1,l,none=>match Region.ready .any ops l with
  |r::rs=>du r i&&(AB (l.setIfInBounds i true) fun q=>Ce cl ops t f q none)&&Ce cl ops u (f+1) l (some rs)
  |[]=>false
 | .fork i t u,f+1,l,some (r::rs)=>du r i&&(AB (l.setIfInBounds i true) fun q=>Ce cl ops t f q none)&&Ce cl ops u (f+1) l (some rs)
 | .nil,_+1,_,some []=>true
 |_,_,_,_=>false
theorem Y5(cl:Nat→Bool)(ops:Array Oper): ∀(t:Tree) (f:Nat) (l:Array Bool) (o:Option (List Nat)),Ce cl ops t f l o=AK cl ops t f l o:=by
 intro t
 induction t with
 |done=>intro f l o;cases o<;>simp only[Ce,AK]
 |nil=>intro f l o;cases f<;>rcases o with _|_|_<;>simp only[Ce,AK]
 |one i t ih=>intro f l o;cases f<;>cases o<;>simp only[Ce,AK,AA,ih]
 |fork i t u ih1 ih2=>
  intro f l o
  cases f with
  |zero=>cases o<;>simp only[Ce,AK]
  |succ f=>rcases o with _|_|_<;>simp only[Ce,AK,AA,ih1,ih2]<;>rfl
def Qr:Code→List (Nat×Array Oper)
 | .region id ops true=>[(id,ops)]
 | .seq a b=>Qr a++Qr b
 | .cond _ a b=>Qr a++Qr b
 | .block _ a=>Qr a
 | .loop a=>Qr a
 | .scope a=>Qr a
 | .rangeFunc _ _ a b=>Qr a++Qr b
 |_=>[]
def ae7(cl:Nat→Bool)(T:Nat→Tree)(p:Nat×Array Oper):Bool:=Region.noSelect p.2&&AB (Array.replicate p.2.size false) fun l=>Ce cl p.2 (T p.1) p.2.size l none
def PQ(cl:Nat→Bool)(T:Nat→Tree)(c:Code)(k:Nat):Bool:=match(Qr c)[k]? with
 |some p=>ae7 cl T p
 |none=>true
def qD:Code→Bool
 | .seq a b=>qD a&&qD b
 | .cond _ a b=>qD a&&qD b
 | .block _ a=>qD a
 | .loop a=>qD a
 | .scope a=>qD a
 | .rangeFunc _ _ a b=>(ua a&&ua b)&&(qD a&&qD b)
 |_=>true
theorem iy(cl:Nat→Bool)(T:Nat→Tree): ∀c:Code,qD c=true→(∀p∈Qr c,ae7 cl T p=true)→cm cl T c=true
 | .region id ops true,_,h=>by
  have:=h _ (List.mem_singleton.2 rfl)
  unfold ae7 at this
  rw[AA,Y5]at this
  exact this
 | .region _ _ false,_,_=>rfl
 | .seq a b,n,h=>by
  simp only[qD,Bool.and_eq_true]at n
  simp only[cm,Bool.and_eq_true]
  exact⟨iy cl T a n.1 fun p hp=>h p (List.mem_append.2 (.inl hp)),iy cl T b n.2 fun p hp=>h p (List.mem_append.2 (.inr hp))⟩
 | .cond _ a b,n,h=>by
  simp only[qD,Bool.and_eq_true]at n
  simp only[cm,Bool.and_eq_true]
  exact⟨iy cl T a n.1 fun p hp=>h p (List.mem_append.2 (.inl hp)),iy cl T b n.2 fun p hp=>h p (List.mem_append.2 (.inr hp))⟩
 | .block _ a,n,h=>iy cl T a n h
 | .loop a,n,h=>iy cl T a n h
 | .scope a,n,h=>iy cl T a n h
 | .rangeFunc _ _ a b,n,h=>by
  simp only[qD,Bool.and_eq_true]at n
  simp only[cm,Bool.and_eq_true]
  exact⟨n.1,iy cl T a n.2.1 fun p hp=>h p (List.mem_append.2 (.inl hp)),iy cl T b n.2.2 fun p hp=>h p (List.mem_append.2 (.inr hp))⟩
 | .skip,_,_| .exit _,_,_| .label _,_,_| .goto _,_,_| .ret,_,_| .refuse _,_,_=>rfl
theorem Ui{cl:Nat→Bool}{T:Nat→Tree}{c:Code}(n:Nat)(hn:qD c=true:=by kernel_rfl)(hl:(Qr c).length=n:=by kernel_rfl)(h: ∀k,k<n→PQ cl T c k=true):cm cl T c=true:=by
 refine iy cl T c hn fun p hp=>?_
 obtain⟨k,hk,e⟩:=List.getElem_of_mem hp
 have:=h k (hl▸hk)
 unfold PQ at this
 rw[List.getElem?_eq_getElem hk]at this
 rw[e]at this
 exact this
end Ab
namespace Ab
open Go
variable{P:Program}{E:Env}{w w':World}{a:Act}
theorem count_set{l:List Bool}{i:Nat}(h:l[i]? =some false):(l.set i true).count false+1=l.count false:=by
 obtain⟨h1,h2⟩:=List.getElem?_eq_some_iff.1 h
 have h3:0<l.count false:=List.count_pos_iff.2 (by rw[←h2];exact List.getElem_mem h1)
 rw[List.count_set h1,h2]
 simp
 omega
theorem Ox{cl:Nat→Bool}{ops:Array Oper}{Q:Exit→Act→World→Prop}(Inv:Array Bool→Act→World→Prop)(Kg: ∀l a w,Inv l a w→Region.ready .any ops l=[]→Q .normal a w)
  (Z2: ∀l a w i,Inv l a w→i∈Region.ready .any ops l→jK P cl ops Q i (Inv (l.setIfInBounds i true)) a w):
  ∀(fuel:Nat) (l:Array Bool) (a:Act) (w:World),Inv l a w→l.toList.count false≤fuel→pw P cl .any ops Q fuel l a w
 |0,l,a,w,h,hc=>by
  have hr:Region.ready .any ops l=[]:=by
   apply List.eq_nil_iff_forall_not_mem.2
   intro j hj
   have h1:=(mem_ready.1 hj).1
   have h2:false∈l.toList:=by
    rw[Array.getD_eq_getD_getElem?]at h1
    cases h3:l[j]? with
    |none=>rw[h3]at h1;simp at h1
    |some b=>rw[h3]at h1;simp at h1;subst h1;rw[←Array.getElem?_toList]at h3;exact List.mem_of_getElem? h3
   have:=List.count_pos_iff.2 h2
   omega
  exact⟨hr,Kg l a w h hr⟩
 |fuel+1,l,a,w,h,hc=>by
  refine⟨fun hr=>Kg l a w h hr,fun i hi=>xu (fun a' w' h'=>?_) (Z2 l a w i h hi)⟩
  refine Ox Inv Kg Z2 fuel _ a' w' h' ?_
  have h1:=(mem_ready.1 hi).1
  have h3:l.toList[i]? =some false:=by
   rw[Array.getD_eq_getD_getElem?]at h1
   rw[Array.getElem?_toList]
   cases h3:l[i]? with
   |none=>rw[h3]at h1;simp at h1
   |some b=>rw[h3]at h1;simp at h1;subst h1;rfl
  have:=count_set h3
  rw[Array.toList_setIfInBounds]
  omega
theorem ll{cl:Nat→Bool}{ops:Array Oper}{Q:Exit→Act→World→Prop}{i:Nat}{o:Oper}{K:Act→World→Prop}{x:Value}(hi:ops[i]? =some o)(hg:o.guard=none)(hr:(execOp a.eval o).run P w= .ok (.value x) w)(hk:K (a.put o.dst x) w):jK P cl ops Q i K a w:=by
 unfold jK
 rw[hi]
 dsimp only
 rw[if_pos (by simp[Region.wanted,hg])]
 unfold kU
 rw[hr]
 exact⟨hk,fun _=>bY.refl w⟩
theorem JB{cl:Nat→Bool}{ops:Array Oper}{Q:Exit→Act→World→Prop}{i:Nat}{o:Oper}{K:Act→World→Prop}(hi:ops[i]? =some o)(hg:o.guard=none)(hc:Em cl o.op=false)(hr:(execOp a.eval o).run P w= .ok .skip w')(hk:K (a.put o.dst undef) w'):jK P cl ops Q i K a w:=by
 unfold jK
 rw[hi]
 dsimp only
 rw[if_pos (by simp[Region.wanted,hg])]
 unfold kU
 rw[hr]
 exact⟨hk,fun h=>by rw[hc]at h;cases h⟩
abbrev FL:=List (Nat×Nat×Value)
def FOk(F:FL)(l:Array Bool)(a:Act):Prop:= ∀x∈F,l.getD x.1 false=true→a.tmps.getD x.2.1 undef=x.2.2
def FU(F:FL):Prop:= ∀x∈F,∀y∈F,(x.1=y.1→x=y)∧(x.2.1=y.2.1→x=y)
theorem Ge{l:Array Bool}{i j:Nat}(h:(l.setIfInBounds i true).getD j false=true):j=i∨l.getD j false=true:=by
 simp only[Array.getD_eq_getD_getElem?,Array.getElem?_setIfInBounds]at h ⊢
 by_cases hij:i=j
 ·exact .inl hij.symm
 ·rw[if_neg hij]at h;exact .inr h
theorem FOk.put{F:FL}{l:Array Bool}{i d:Nat}{v:Value}(hU:FU F)(h:FOk F l a)(hm:(i,d,v)∈F)(hd:d<a.tmps.size):FOk F (l.setIfInBounds i true) (a.put (some d) v):=by
 intro x hx hl
 rw[uq a d x.2.1 v hd]
 by_cases hxd:x.2.1=d
 ·rw[if_pos hxd]
  have:=(hU x hx _ hm).2 hxd
  rw[this]
 ·rw[if_neg hxd]
  rcases Ge hl with h1|h1
  ·have:=(hU x hx _ hm).1 h1
   rw[this]at hxd
   exact absurd rfl hxd
  ·exact h x hx h1
theorem FOk.skip{F:FL}{l:Array Bool}{i:Nat}(h:FOk F l a)(hn: ∀x∈F,x.1≠i):FOk F (l.setIfInBounds i true) a:=fun x hx hl=>by
 rcases Ge hl with h1|h1
 ·exact absurd h1 (hn x hx)
 ·exact h x hx h1
def fZ:Value:= .string ⟨#[109,111,114,101]⟩
def Z9(H:Array Obj)(B2 bo oo:Nat)(c2 cO:Array Value)(e2 eO:Nat)(b6 b9:Bool):Array Obj:=
 let H6:=bif b6 then H.setIfInBounds B2 (.cells (c2.setIfInBounds 0 fZ) e2 (0,0))else H
 bif b9 then H6.setIfInBounds bo (.cells (cO.setIfInBounds (oo+5) fZ) eO (0,0))else H6
theorem TB{H:Array Obj}{B2 bo oo:Nat}{c2 cO:Array Value}{e2 eO:Nat}{b6 b9:Bool}(h2:H[B2]? =some (.cells c2 e2 (0,0)))(cU:bo≠B2):(Z9 H B2 bo oo c2 cO e2 eO b6 b9)[B2]? =some (.cells (bif b6 then c2.setIfInBounds 0 fZ else c2) e2 (0,0)):=by
 obtain⟨aS,_⟩:=Array.getElem?_eq_some_iff.1 h2
 have h6:(bif b6 then H.setIfInBounds B2 (Obj.cells (c2.setIfInBounds 0 fZ) e2 (0,0))else H)[B2]? =some (.cells (bif b6 then c2.setIfInBounds 0 fZ else c2) e2 (0,0)):=by
  cases b6 with
  |false=>exact h2
  |true=>simp[aS]
 unfold Z9
 cases b9 with
 |false=>exact h6
 |true=>show(Array.setIfInBounds _ _ _)[B2]? =_;rw[Array.getElem?_setIfInBounds_ne cU];exact h6
theorem aeu{H:Array Obj}{B2 bo oo:Nat}{c2 cO:Array Value}{e2 eO:Nat}{b6:Bool}(hO:H[bo]? =some (.cells cO eO (0,0)))(cU:bo≠B2):(Z9 H B2 bo oo c2 cO e2 eO b6 false)[bo]? =some (.cells cO eO (0,0)):=by
 unfold Z9
 cases b6 with
 |false=>exact hO
 |true=>show(Array.setIfInBounds _ _ _)[bo]? =_;rw[Array.getElem?_setIfInBounds_ne (Ne.symm cU)];exact hO
theorem TA{H:Array Obj}{B2 bo oo b o:Nat}{c2 cO:Array Value}{e2 eO:Nat}{b6:Bool}(cU:b≠B2):aO (Z9 H B2 bo oo c2 cO e2 eO b6 false) b o=aO H b o:=by
 have h:(Z9 H B2 bo oo c2 cO e2 eO b6 false)[b]? =H[b]? :=by
  unfold Z9
  cases b6 with
  |false=>rfl
  |true=>show(Array.setIfInBounds _ _ _)[b]? =_;rw[Array.getElem?_setIfInBounds_ne (Ne.symm cU)]
 unfold aO
 rw[h]
theorem JP{t b q:Nat}{ti:TI}{y:Value}{L:nv}(hL:bk P L)(ht:L t=some ti)(so:ti.agg=false)(hl:ti.size=1)(hy:aO w.heap b q=some y):(Instr.loadAt t (.pointer (some ⟨b,q,none⟩))).run P w= .ok y w:=by
 have hp:part ti [AV.v y] 0=some (.v y):=by
  unfold part
  rw[show mL (0+ti.size) [AV.v y].length=true by rw[xP];simp[hl],so]
  rfl
 obtain⟨y',g1,g2⟩:=iX (P:=P) (E:=⟨#[],fun _ _=>False,fun _=>0,fun _=>0,fun _=>False,fun _=>(0,0),fun _=> .SX,[]⟩) (w:=w) hL ht (b:=b) (o:=q) hp (fun j a' ha=>by
  cases j with
  |zero=>cases ha;exact⟨y,hy,.v _⟩
  |succ j=>simp at ha)
 have:=bH g2
 subst this
 simpa using g1
theorem FG{t b q e:Nat}{ti:TI}{c:Array Value}{s:ByteArray}{L:nv}(hL:bk P L)(ht:L t=some ti)(hl:ti.size=1)(hb:w.heap[b]? =some (.cells c e (0,0)))(hq:q<c.size):
  ∃w',(Instr.storeAt t (.pointer (some ⟨b,q,none⟩)) (.string s)).run P w= .ok () w'∧w'.heap=w.heap.setIfInBounds b (.cells (c.setIfInBounds q (.string s)) e (0,0))∧iC w w':=by
 have iK:(Value.string s).cells= #[.string s]:=rfl
 obtain⟨w',g1,g2,g3⟩:=run_store (P:=P) hL ht (off:=q) (v:= .string s) hb (by rw[iK];exact hl.symm) (by omega) (by rw[iK];intro x hx;simp at hx;subst hx;rfl)
 rw[iK]at g2
 exact⟨w',g1,by rw[g2];rfl,g3⟩
theorem ga{l:Array Bool}{i j:Nat}(h:j≠i):(l.setIfInBounds i true).getD j false=l.getD j false:=by
 simp only[Array.getD_eq_getD_getElem?,Array.getElem?_setIfInBounds_ne (Ne.symm h)]
theorem Ax{l:Array Bool}{i:Nat}(h:i<l.size):(l.setIfInBounds i true).getD i false=true:=by
 simp[Array.getD_eq_getD_getElem?,h]
structure zK(w0:World)(H:Array Obj)(B2 bo oo:Nat)(c2 cO:Array Value)(e2 eO:Nat)(df:List Deferred)(base:Nat→Value)(F:FL)(l:Array Bool)(a:Act)(w:World):Prop where
 sz:l.size=10
 heap:w.heap=Z9 H B2 bo oo c2 cO e2 eO (l.getD 6 false) (l.getD 9 false)
 same:iC w0 w
 last:l.getD 9 false=true→ ∀j,j<9→l.getD j false=true
 c8:l.getD 8 false=true→l.getD 7 false=true
 tm:a.tmps.size=29
 df:a.defers=df
 base: ∀d,d<3→a.tmps.getD d undef=base d
 fs:FOk F l a
section
variable{w0:World}{H:Array Obj}{B2 bo oo:Nat}{c2 cO:Array Value}{e2 eO:Nat}{df:List Deferred}{base:Nat→Value}{F:FL}{l:Array Bool}
theorem zK.no9(h:zK w0 H B2 bo oo c2 cO e2 eO df base F l a w){i:Nat}(hi:i<9)(hu:l.getD i true=false):l.getD 9 false=false:=by
 cases h9:l.getD 9 false with
 |false=>rfl
 |true=>
  have:=h.last h9 i hi
  have aS:i<l.size:=by rw[h.sz];omega
  simp only[Array.getD_eq_getD_getElem?,Array.getElem?_eq_getElem aS,Option.getD_some]at this hu
  rw[this]at hu;cases hu
theorem zK.put(h:zK w0 H B2 bo oo c2 cO e2 eO df base F l a w){i d:Nat}{v:Value}(hU:FU F)(hi:i<9)(h6:i≠6)(hu:l.getD i true=false)(hm:(i,d,v)∈F)(hd:3≤d∧d<29)(h8:i=8→l.getD 7 false=true):
  zK w0 H B2 bo oo c2 cO e2 eO df base F (l.setIfInBounds i true) (a.put (some d) v) w:=by
 have h9:=h.no9 hi hu
 refine⟨by simpa using h.sz,?_,h.same,fun hh=>?_,fun hh=>?_,by simp[Act.put,h.tm],h.df,fun d' ou=>?_,h.fs.put hU hm (by rw[h.tm];exact hd.2)⟩
 ·rw[ga (Ne.symm h6),ga (by omega)];exact h.heap
 ·rw[ga (by omega),h9]at hh;cases hh
 ·by_cases h7:i=7
  ·subst h7;exact Ax (by rw[h.sz];decide)
  ·rw[ga (Ne.symm h7)]
   by_cases h8':i=8
   ·exact h8 h8'
   ·rw[ga (Ne.symm h8')]at hh;exact h.c8 hh
 ·rw[uq a d d' v (by rw[h.tm];exact hd.2),if_neg (by omega)];exact h.base d' ou
theorem zK.s6(h:zK w0 H B2 bo oo c2 cO e2 eO df base F l a w)(hu:l.getD 6 true=false)(hF: ∀x∈F,x.1≠6){w':World}(h2:H[B2]? =some (.cells c2 e2 (0,0)))(hh:w'.heap=w.heap.setIfInBounds B2 (.cells (c2.setIfInBounds 0 fZ) e2 (0,0)))(hs:iC w w'):
  zK w0 H B2 bo oo c2 cO e2 eO df base F (l.setIfInBounds 6 true) a w':=by
 have h9:=h.no9 (by decide) hu
 have h6:l.getD 6 false=false:=by
  have aS:6<l.size:=by rw[h.sz];omega
  simp only[Array.getD_eq_getD_getElem?,Array.getElem?_eq_getElem aS,Option.getD_some]at hu ⊢
  exact hu
 refine⟨by simpa using h.sz,?_,h.same.trans hs,fun hh=>?_,fun hh=>by rw[ga (by decide)]at hh ⊢;exact h.c8 hh,h.tm,h.df,h.base,h.fs.skip hF⟩
 ·rw[hh,h.heap,Ax (by rw[h.sz];decide),ga (by decide),h9,h6];rfl
 ·rw[ga (by decide),h9]at hh;cases hh
theorem zK.s9(h:zK w0 H B2 bo oo c2 cO e2 eO df base F l a w)(hu:l.getD 9 true=false)(hF: ∀x∈F,x.1≠9)(jD: ∀j,j<9→j≠7→l.getD j false=true){w':World}(hh:w'.heap=w.heap.setIfInBounds bo (.cells (cO.setIfInBounds (oo+5) fZ) eO (0,0)))(hs:iC w w'):
  zK w0 H B2 bo oo c2 cO e2 eO df base F (l.setIfInBounds 9 true) a w':=by
 have h9:l.getD 9 false=false:=by
  have aS:9<l.size:=by rw[h.sz];omega
  simp only[Array.getD_eq_getD_getElem?,Array.getElem?_eq_getElem aS,Option.getD_some]at hu ⊢
  exact hu
 have ajL: ∀j,j<9→l.getD j false=true:=fun j hj=>by
  by_cases h7:j=7
  ·subst h7;exact h.c8 (jD 8 (by decide) (by decide))
  ·exact jD j hj h7
 refine⟨by simpa using h.sz,?_,h.same.trans hs,fun _ j hj=>?_,fun hh=>by rw[ga (by decide)]at hh ⊢;exact h.c8 hh,h.tm,h.df,h.base,h.fs.skip hF⟩
 ·rw[hh,h.heap,Ax (by rw[h.sz];decide),ga (by decide),h9];rfl
 ·rw[ga (by omega)];exact ajL j hj
end
def qz:Nat→Op×Option Nat
 |0=>(.fieldAddr 57 (.tmp 2) 2,some 14)
 |1=>(.load 55 (.tmp 14),some 15)
 |2=>(.indexAddr 55 (.tmp 15) (.const (.int .i64 0)),some 16)
 |3=>(.fieldAddr 61 (.tmp 16) 2,some 17)
 |4=>(.load 59 (.tmp 17),some 18)
 |5=>(.fieldAddr 57 (.tmp 2) 0,some 19)
 |6=>(.store 9 (.tmp 19) (.const fZ),none)
 |7=>(.indexAddr 59 (.tmp 18) (.const (.int .i64 1)),some 20)
 |8=>(.fieldAddr 64 (.tmp 20) 1,some 21)
 |_=>(.store 9 (.tmp 21) (.const fZ),none)
def mf:Nat→Nat→Bool
 |1,0=>true
 |2,1=>true
 |3,2=>true
 |4,3=>true
 |6,5=>true
 |7,4=>true
 |8,7=>true
 |9,j=>decide (j<9)&& !decide (j=7)
 |_,_=>false
def F3(B2 bb ob nb cb bo oo no co:Nat):FL:=
 [(0,14,.pointer (some ⟨B2,2,none⟩)),(1,15,.slice (some ⟨bb,ob,none⟩) nb cb),(2,16,.pointer (some ⟨bb,ob,none⟩)),(3,17,.pointer (some ⟨bb,ob+2,none⟩)),(4,18,.slice (some ⟨bo,oo,none⟩) no co),
  (5,19,.pointer (some ⟨B2,0,none⟩)),(7,20,.pointer (some ⟨bo,oo+4,none⟩)),(8,21,.pointer (some ⟨bo,oo+5,none⟩))]
theorem fu3{B2 bb ob nb cb bo oo no co:Nat}:FU (F3 B2 bb ob nb cb bo oo no co):=by
 intro x hx y hy
 simp only[F3,List.mem_cons,List.mem_nil_iff,or_false]at hx hy
 rcases hx with rfl|rfl|rfl|rfl|rfl|rfl|rfl|rfl<;>rcases hy with rfl|rfl|rfl|rfl|rfl|rfl|rfl|rfl<;>simp
theorem ait{cl:Nat→Bool}{ops:Array Oper}{Q:Exit→Act→World→Prop}(hk: ∀i,i<10→ ∃o,ops[i]? =some o∧o.guard=none∧o.op=(qz i).1∧o.dst=(qz i).2)
  (apn: ∀(l:Array Bool) i,i∈Region.ready .any ops l→i<10∧ ∀j,mf i j=true→l.getD j false=true)
  {w0:World}{H:Array Obj}{B2 bb ob nb cb bo oo no co:Nat}{c2 cO:Array Value}{e2 eO:Nat}{df:List Deferred}{base:Nat→Value}
  (B4:base 2= .pointer (some ⟨B2,0,none⟩))(h2:H[B2]? =some (.cells c2 e2 (0,0)))(h20:0<c2.size)(h22:c2[2]? =some (.slice (some ⟨bb,ob,none⟩) nb cb))(Vd:0<nb)(hbr:aO H bb (ob+2)=some (.slice (some ⟨bo,oo,none⟩) no co))(PG:1<no)
  (hO:H[bo]? =some (.cells cO eO (0,0)))(hO5:oo+5<cO.size)(cU:bo≠B2)(ao1:bb≠B2)
  (Kg: ∀l a w,zK w0 H B2 bo oo c2 cO e2 eO df base (F3 B2 bb ob nb cb bo oo no co) l a w→Region.ready .any ops l=[]→Q .normal a w)
  {l:Array Bool}{a:Act}{w:World}(h:zK w0 H B2 bo oo c2 cO e2 eO df base (F3 B2 bb ob nb cb bo oo no co) l a w)(fuel:Nat)(hf:l.toList.count false≤fuel):pw PP cl .any ops Q fuel l a w:=by
 refine Ox (fun l a w=>zK w0 H B2 bo oo c2 cO e2 eO df base (F3 B2 bb ob nb cb bo oo no co) l a w) Kg (fun l a w i h hi=>?_) fuel l a w h hf
 obtain⟨zU,hd⟩:=apn l i hi
 have hu:=(mem_ready.1 hi).1
 obtain⟨o,ho,hg,vj,rn⟩:=hk i zU
 have ev: ∀{j d:Nat} {v:Value},(j,d,v)∈F3 B2 bb ob nb cb bo oo no co→l.getD j false=true→a.eval (.tmp d)=v:=fun hm hl=>h.fs _ hm hl
 have e2':a.eval (.tmp 2)= .pointer (some ⟨B2,0,none⟩):=(h.base 2 (by decide)).trans B4
 match i,zU,vj,rn,hd,hu,ho with
 |0,_,vj,rn,hd,hu,ho=>
  refine ll ho hg (x:= .pointer (some ⟨B2,2,none⟩)) ?_ (by rw[rn];exact h.put fu3 (by decide) (by decide) hu (by simp[F3]) (by decide) (by simp))
  simp only[execOp,vj,qz,e2']
  simp[lb (P:=PP) lay (show gb L 57 2=some 2 from rfl)]
 |1,_,vj,rn,hd,hu,ho=>
  refine ll ho hg (x:= .slice (some ⟨bb,ob,none⟩) nb cb) ?_ (by rw[rn];exact h.put fu3 (by decide) (by decide) hu (by simp[F3]) (by decide) (by simp))
  have hc:aO w.heap B2 2=some (.slice (some ⟨bb,ob,none⟩) nb cb):=by
   rw[h.heap]
   unfold aO
   rw[TB h2 cU]
   cases l.getD 6 false with
   |false=>exact h22
   |true=>show(c2.setIfInBounds 0 fZ)[2]? =_;rw[Array.getElem?_setIfInBounds_ne (by decide)];exact h22
  have:=JP (P:=PP) (t:=55) lay (show L 55=some _ from rfl) rfl rfl hc
  simp only[execOp,vj,qz,ev (j:=0) (d:=14) (by simp[F3];rfl) (hd 0 rfl)]
  simp[this]
 |2,_,vj,rn,hd,hu,ho=>
  refine ll ho hg (x:= .pointer (some ⟨bb,ob,none⟩)) ?_ (by rw[rn];exact h.put fu3 (by decide) (by decide) hu (by simp[F3]) (by decide) (by simp))
  have:=iY (P:=PP) (t:=55) lay (show elemOf L 55=some (61,_)from rfl) .i64 0 bb ob nb cb (by decide) (by omega) w
  simp only[execOp,vj,qz,ev (j:=1) (d:=15) (by simp[F3];rfl) (hd 1 rfl)]
  simp at this
  simp[Act.eval,this]
 |3,_,vj,rn,hd,hu,ho=>
  refine ll ho hg (x:= .pointer (some ⟨bb,ob+2,none⟩)) ?_ (by rw[rn];exact h.put fu3 (by decide) (by decide) hu (by simp[F3]) (by decide) (by simp))
  simp only[execOp,vj,qz,ev (j:=2) (d:=16) (by simp[F3];rfl) (hd 2 rfl)]
  simp[lb (P:=PP) lay (show gb L 61 2=some 2 from rfl)]
 |4,_,vj,rn,hd,hu,ho=>
  refine ll ho hg (x:= .slice (some ⟨bo,oo,none⟩) no co) ?_ (by rw[rn];exact h.put fu3 (by decide) (by decide) hu (by simp[F3]) (by decide) (by simp))
  have hc:aO w.heap bb (ob+2)=some (.slice (some ⟨bo,oo,none⟩) no co):=by
   rw[h.heap,h.no9 (by decide) hu,TA ao1];exact hbr
  have:=JP (P:=PP) (t:=59) lay (show L 59=some _ from rfl) rfl rfl hc
  simp only[execOp,vj,qz,ev (j:=3) (d:=17) (by simp[F3];rfl) (hd 3 rfl)]
  simp[this]
 |5,_,vj,rn,hd,hu,ho=>
  refine ll ho hg (x:= .pointer (some ⟨B2,0,none⟩)) ?_ (by rw[rn];exact h.put fu3 (by decide) (by decide) hu (by simp[F3]) (by decide) (by simp))
  simp only[execOp,vj,qz,e2']
  simp[lb (P:=PP) lay (show gb L 57 0=some 0 from rfl)]
 |6,_,vj,rn,hd,hu,ho=>
  have h6:l.getD 6 false=false:=by
   have aS:6<l.size:=by rw[h.sz];omega
   simp only[Array.getD_eq_getD_getElem?,Array.getElem?_eq_getElem aS,Option.getD_some]at hu ⊢
   exact hu
  have hc:w.heap[B2]? =some (.cells c2 e2 (0,0)):=by rw[h.heap,TB h2 cU,h6];rfl
  obtain⟨w',g1,g2,g3⟩:=FG (P:=PP) (t:=9) (s:=⟨#[109,111,114,101]⟩) lay (show L 9=some _ from rfl) rfl hc (q:=0) h20
  refine JB ho hg (by rw[vj];rfl) ?_ (by rw[rn];exact h.s6 hu (by simp[F3]) h2 g2 g3)
  simp only[execOp,vj,qz,ev (j:=5) (d:=19) (by simp[F3];rfl) (hd 5 rfl)]
  simp[Act.eval,fZ,g1]
 |7,_,vj,rn,hd,hu,ho=>
  refine ll ho hg (x:= .pointer (some ⟨bo,oo+4,none⟩)) ?_ (by rw[rn];exact h.put fu3 (by decide) (by decide) hu (by simp[F3]) (by decide) (by simp))
  have:=iY (P:=PP) (t:=59) lay (show elemOf L 59=some (64,_)from rfl) .i64 1 bo oo no co (by decide) (by omega) w
  simp only[execOp,vj,qz,ev (j:=4) (d:=18) (by simp[F3];rfl) (hd 4 rfl)]
  simp at this
  simp[Act.eval,this]
 |8,_,vj,rn,hd,hu,ho=>
  refine ll ho hg (x:= .pointer (some ⟨bo,oo+5,none⟩)) ?_ (by rw[rn];exact h.put fu3 (by decide) (by decide) hu (by simp[F3]) (by decide) (fun _=>hd 7 rfl))
  simp only[execOp,vj,qz,ev (j:=7) (d:=20) (by simp[F3];rfl) (hd 7 rfl)]
  simp[lb (P:=PP) lay (show gb L 64 1=some 1 from rfl)]
 |9,_,vj,rn,hd,hu,ho=>
  have h9:l.getD 9 false=false:=by
   have aS:9<l.size:=by rw[h.sz];omega
   simp only[Array.getD_eq_getD_getElem?,Array.getElem?_eq_getElem aS,Option.getD_some]at hu ⊢
   exact hu
  have hc:w.heap[bo]? =some (.cells cO eO (0,0)):=by rw[h.heap,h9];exact aeu hO cU
  obtain⟨w',g1,g2,g3⟩:=FG (P:=PP) (t:=9) (s:=⟨#[109,111,114,101]⟩) lay (show L 9=some _ from rfl) rfl hc hO5
  refine JB ho hg (by rw[vj];rfl) ?_ (by rw[rn];exact h.s9 hu (by simp[F3]) (fun j hj h7=>hd j (by simp[mf,hj,h7])) g2 g3)
  simp only[execOp,vj,qz,ev (j:=8) (d:=21) (by simp[F3];rfl) (hd 8 (by decide))]
  simp[Act.eval,fZ,g1]
 |n+10,zU,_,_,_,_,_=>omega
theorem bn.ahy{E0:Env}{w0:World}{s:St}(h:bn E0 E w0 w s a){d:Nat}{cs cs':List AV}(hk:look d s.b=some (.box cs))(hl:cs'.length=cs.length)
  (hc: ∀c e,E.h[E.m (.s d)]? =some (.cells c e (0,0))→ ∀(q:Nat) (av:AV) (x:Value),cs'[q]? =some av→c[q]? =some x→Cz E av x):bn E0 E w0 w {s with b:=cX d (.box cs') s.b} a:=by
 have hp: ∀p:Path,aZ {s with b:=cX d (.box cs') s.b} p↔aZ s p:=fun p=>lj fun _ _=>rfl
 refine⟨h.heap,h.wf,h.IG,h.up,h.sz,fun d' x hd wu=>h.tm d' x hd ((hp _).1 wu),fun d' q hd wu=>h.cu d' q hd fun hh=>wu ((hp _).2 hh),fun d' ob hd=>?_,fun d' hlv=>?_,h.gx,h.gl,h.ext,h.xc,h.same,h.gk,h.nl,h.ng,h.lo⟩
 ·have hd:look d' (cX d (.box cs') s.b)=some ob:=hd
  rw[aF]at hd
  by_cases rI:d=d'
  ·subst rI
   rw[if_pos rfl]at hd
   cases hd
   obtain⟨h1,c,e,h2,h3,h4,h5,_⟩:=h.bx d _ hk
   exact⟨h1,c,e,h2,h3,h4,h5.trans hl.symm,hc c e h2⟩
  ·rw[if_neg rI]at hd;exact h.bx d' ob hd
 ·obtain⟨ob,ho⟩:=h.lv d' hlv
  show∃ob,look d' (cX d (.box cs') s.b)=some ob
  rw[aF]
  by_cases rI:d=d'
  ·exact⟨_,if_pos rI⟩
  ·exact⟨ob,by rw[if_neg rI];exact ho⟩
end Ab
namespace Ab
open Go
variable{P:Program}{E E' E0:Env}{w w' w0:World}{a:Act}{s:St}
 mutual
def HH(x:Value):AV→Prop
  | .v y=>y≠x
  | .sl _ xs=>JE x xs
  |_=>False
def noL(x:Value):List AV→Prop
  |[]=>True
  |a::l=>HH x a∧noL x l
def JE(x:Value):List (List AV)→Prop
  |[]=>True
  |a::l=>noL x a∧JE x l
end
theorem NM{x:Value}: ∀{cs:List AV},noL x cs→ ∀(q:Nat) (a:AV),cs[q]? =some a→HH x a
 |[],_,q,a,h=>by simp at h
 |y::l,h,q,a,hq=>by
  simp only[noL]at h
  cases q with
  |zero=>simp at hq;subst hq;exact h.1
  |succ q=>exact NM h.2 q a (by simpa using hq)
theorem DI{x:Value}: ∀{xs:List (List AV)},JE x xs→ ∀(q:Nat) (a:AV),xs.flatten[q]? =some a→HH x a
 |[],_,q,a,h=>by simp at h
 |y::l,h,q,a,hq=>by
  simp only[JE]at h
  rw[List.flatten_cons]at hq
  by_cases aS:q<y.length
  ·rw[List.getElem?_append_left aS]at hq;exact NM h.1 q a hq
  ·rw[List.getElem?_append_right (by omega)]at hq;exact DI h.2 _ a hq
theorem adL{a:AV}{t:ByteArray}(h:Cz E a (.string t))(hn:HH (.string t) a):False:=by
 cases h with
 |v=>simp only[HH]at hn;exact hn rfl
 |any=>simp only[HH]at hn
 |mN=>simp only[HH]at hn
structure UI(E E':Env)(bo oo:Nat)(t:ByteArray):Prop where
 aM: ∀b o,E.aM b o→E'.aM b o
 dH: ∀b,E'.dH b=E.dH b
 cell: ∀b o,¬(b=bo∧o=oo)→aO E'.h b o=aO E.h b o
 was:aO E.h bo oo=some (.string t)
theorem UI.bj{bo oo:Nat}{t:ByteArray}(k:UI E E' bo oo t){b o:Nat}{a:AV}{x:Value}(hx:aO E.h b o=some x)(h:Cz E a x)(hn:HH (.string t) a):aO E'.h b o=some x:=by
 rw[k.cell b o fun hh=>by
  obtain⟨rfl,rfl⟩:=hh
  rw[k.was]at hx
  cases hx
  exact adL h hn]
 exact hx
theorem Cz.anG{bo oo:Nat}{t:ByteArray}(k:UI E E' bo oo t){av:AV}{x:Value}(h:Cz E av x):HH (.string t) av→Cz E' av x:=by
 induction h with
 |v x=>exact fun _=> .v _
 |mZ q A c=>exact fun _=> .mZ _ _ _
 |sl q xs z b o c u hp hc hm dQ hz hr hi hs hu hq ih=>
  intro hn
  simp only[HH]at hn
  exact .sl q xs z b o c u hp hc hm dQ hz ((k.dH b).trans hr) hi (fun i a ha=>k.aM _ _ (hs i a ha)) (fun i a ha=>k.bj (hu i a ha) (hq i a ha) (DI hn i a ha)) (fun i a ha=>ih i a ha (DI hn i a ha))
 |_=>intro h;simp only[HH]at h
theorem Cz.slN{r:Nat}{xs ys:List (List AV)}{z b o n c:Nat}(h:Cz E (.sl r xs) (.slice (some ⟨b,o,none⟩) n c))(hx:0<xs.length)(hl:ys.length=xs.length)(hz: ∀l∈xs,l.length=z)(J9: ∀l∈ys,l.length=z)(h0:0<z)(fP: ∀b o,E.aM b o→E'.aM b o)(Ty: ∀b,E'.dH b=E.dH b)
  (hi: ∀(q:Nat) (a:AV),ys.flatten[q]? =some a→cq a=true)
  (hq: ∀(q:Nat) (a' a:AV) (x:Value),ys.flatten[q]? =some a'→xs.flatten[q]? =some a→aO E.h b (o+q)=some x→Cz E a x→ ∃y,aO E'.h b (o+q)=some y∧Cz E' a' y):Cz E' (.sl r ys) (.slice (some ⟨b,o,none⟩) n c):=by
 cases h with
 |mZ=>simp at hx
 |sl _ _ z' _ _ _ u hp hc hm dQ PC hr hii hs hu hqq=>
  have hf:=aE hz
  have hf':=aE J9
  have get: ∀q a',ys.flatten[q]? =some a'→ ∃a,xs.flatten[q]? =some a:=fun q a' ha=>by
   have:=(List.getElem?_eq_some_iff.1 ha).1
   have aS:q<xs.flatten.length:=by rw[hf,←hl,←hf'];exact this
   exact⟨_,List.getElem?_eq_getElem aS⟩
  have key: ∀q a',ys.flatten[q]? =some a'→ ∃y,aO E'.h b (o+q)=some y∧Cz E' a' y:=fun q a' ha=>by
   obtain⟨a,h1⟩:=get q a' ha
   exact hq q a' a _ ha h1 (hu q a h1) (hqq q a h1)
  have:=Cz.sl (E:=E') r ys z b o c (fun q=>(aO E'.h b (o+q)).getD undef) (by omega) (by omega) hm h0 J9 ((Ty b).trans hr) hi (fun q a' ha=>by obtain⟨a,h1⟩:=get q a' ha;exact fP _ _ (hs q a h1))
   (fun q a' ha=>by obtain⟨y,h1,_⟩:=key q a' ha;rw[h1];rfl) (fun q a' ha=>by obtain⟨y,h1,h2⟩:=key q a' ha;rw[h1];exact h2)
  rw[hl]at this
  exact this
end Ab
namespace Ab
open Go
variable{E:Env}{r n0:Nat}
 mutual
def upA(r:Nat):AV→AV
  | .sl _ xs=> .sl r (CU r xs)
  | .agg cs=> .agg (Np r cs)
  | .gd cs=> .gd (Np r cs)
  | .v x=> .v x
  |_=> .any
def Np(r:Nat):List AV→List AV
  |[]=>[]
  |a::l=>upA r a::Np r l
def CU(r:Nat):List (List AV)→List (List AV)
  |[]=>[]
  |a::l=>Np r a::CU r l
end
 mutual
def Zk:AV→Prop
  | .sl q xs=>1000000≤q∧UO xs
  | .agg cs=>HiL cs
  | .gd cs=>HiL cs
  |_=>True
def HiL:List AV→Prop
  |[]=>True
  |a::l=>Zk a∧HiL l
def UO:List (List AV)→Prop
  |[]=>True
  |a::l=>HiL a∧UO l
end
theorem v5: ∀(l:List AV) (q:Nat),(Np r l)[q]? =(l[q]?).map (upA r)
 |[],q=>by simp[Np]
 |a::l,q=>by cases q<;>simp[Np,v5 l]
theorem Co: ∀(l:List AV),(Np r l).length=l.length
 |[]=>rfl
 |a::l=>by simp[Np,Co l]
theorem I2: ∀(l:List (List AV)),(CU r l).length=l.length
 |[]=>rfl
 |a::l=>by simp[CU,I2 l]
theorem I1{z:Nat}: ∀{l:List (List AV)},(∀x∈l,x.length=z)→ ∀x∈CU r l,x.length=z
 |[],_,x,h=>by simp[CU]at h
 |a::l,hz,x,h=>by
  simp only[CU,List.mem_cons]at h
  rcases h with rfl|h
  ·rw[Co];exact hz a (by simp)
  ·exact I1 (fun y hy=>hz y (by simp[hy])) x h
theorem FA: ∀(l:List (List AV)),(CU r l).flatten=Np r l.flatten
 |[]=>rfl
 |a::l=>by
  simp only[CU,List.flatten_cons,FA l]
  induction a with
  |nil=>simp[Np]
  |cons x a ih=>simp only[Np,List.cons_append];rw[←ih]
theorem CB: ∀{cs:List AV},HiL cs→ ∀(q:Nat) (a:AV),cs[q]? =some a→Zk a
 |[],_,q,a,h=>by simp at h
 |x::l,h,q,a,hq=>by
  simp only[HiL]at h
  cases q with
  |zero=>simp at hq;subst hq;exact h.1
  |succ q=>exact CB h.2 q a (by simpa using hq)
theorem KK: ∀{xs:List (List AV)},UO xs→ ∀(q:Nat) (a:AV),xs.flatten[q]? =some a→Zk a
 |[],_,q,a,h=>by simp at h
 |x::l,h,q,a,hq=>by
  simp only[UO]at h
  rw[List.flatten_cons]at hq
  by_cases aS:q<x.length
  ·rw[List.getElem?_append_left aS]at hq;exact CB h.1 q a hq
  ·rw[List.getElem?_append_right (by omega)]at hq;exact KK h.2 _ a hq
theorem HY(r:Nat): ∀a:AV,cq a=true→cq (upA r a)=true
 | .sl _ _,_=>rfl
 | .v _,_=>rfl
 | .any,_=>rfl
 | .gs ..,_=>rfl
 | .aP ..,_=>rfl
 | .ptr ..,_=>rfl
 | .iq ..,_=>rfl
 | .cQ ..,_=>rfl
 | .mp _,_=>rfl
 | .po _,_=>rfl
 | .ar ..,_=>rfl
 | .fn ..,_=>rfl
 | .bm ..,_=>rfl
 | .mN ..,_=>rfl
 | .agg cs,h=>wo fun q b hb=>by
  have hb:(Np r cs)[q]? =some b:=hb
  rw[v5]at hb
  cases hc:cs[q]? with
  |none=>rw[hc]at hb;cases hb
  |some c=>rw[hc]at hb;cases hb;exact HY r c (bg (show ca cs=true from h) q c hc)
 | .gd cs,h=>wo fun q b hb=>by
  have hb:(Np r cs)[q]? =some b:=hb
  rw[v5]at hb
  cases hc:cs[q]? with
  |none=>rw[hc]at hb;cases hb
  |some c=>rw[hc]at hb;cases hb;exact HY r c (bg (show ca cs=true from h) q c hc)
 termination_by a=>sizeOf a
 decreasing_by all_goals(simp_wf;have:=List.sizeOf_lt_of_mem (List.mem_of_getElem? hc);omega)
def Env.upE(E:Env)(reg':Nat→Nat):Env:={E with dH:=reg'}
theorem Cz.up{reg':Nat→Nat}(Ty: ∀b,n0≤b→reg' b=r)(xU: ∀b o,E.aM b o→1000000≤E.dH b→n0≤b){av:AV}{x:Value}(h:Cz E av x):Zk av→Cz (E.upE reg') (upA r av) x:=by
 induction h with
 |v x=>exact fun _=> .v _
 |mZ q A c=>exact fun _=> .mZ _ _ _
 |sl q xs z b o c u hp hc hm dQ hz hr hi hs hu hq ih=>
  intro hn
  simp only[Zk]at hn
  have hf:=aE hz
  obtain⟨a0,TS⟩:=pP (l:=xs.flatten) (by rw[hf];exact Nat.mul_pos hp dQ)
  have hb:=xU b _ (hs 0 a0 TS) (by rw[hr];exact hn.1)
  have get: ∀q a,(CU r xs).flatten[q]? =some a→ ∃a',xs.flatten[q]? =some a'∧a=upA r a':=fun q a ha=>by
   rw[FA,v5]at ha
   cases hx:xs.flatten[q]? with
   |none=>rw[hx]at ha;cases ha
   |some a'=>rw[hx]at ha;cases ha;exact⟨a',hx,rfl⟩
  have hl:=I2 (r:=r) xs
  have:=Cz.sl (E:=E.upE reg') r (CU r xs) z b o c u (by rw[hl];exact hp) (by rw[hl];exact hc) hm dQ (I1 hz) (Ty b hb)
   (fun i a ha=>by obtain⟨a',h1,rfl⟩:=get i a ha;exact HY r a' (hi i a' h1)) (fun i a ha=>by obtain⟨a',h1,rfl⟩:=get i a ha;exact hs i a' h1) (fun i a ha=>by obtain⟨a',h1,rfl⟩:=get i a ha;exact hu i a' h1) (fun i a ha=>by obtain⟨a',h1,rfl⟩:=get i a ha;exact ih i a' h1 (KK hn.2 i a' h1))
  rw[hl]at this
  exact this
 |agg cs ys hl hq ih=>
  intro h
  simp only[Zk]at h
  refine .agg _ ys (by rw[Co];exact hl) fun q a y ha hy=>?_
  rw[v5]at ha
  cases hc:cs[q]? with
  |none=>rw[hc]at ha;cases ha
  |some a0=>rw[hc]at ha;cases ha;exact ih q a0 y hc hy (CB h q a0 hc)
 |gd cs ys hl hq ih=>
  intro h
  simp only[Zk]at h
  refine .gd _ ys (by rw[Co];exact hl) fun q a y ha hy=>?_
  rw[v5]at ha
  cases hc:cs[q]? with
  |none=>rw[hc]at ha;cases ha
  |some a0=>rw[hc]at ha;cases ha;exact ih q a0 y hc hy (CB h q a0 hc)
 |_=>exact fun _=> .any _
theorem tI.aiy{P:Program}{f:Nat}{args:List AV}{res:AV}(h: ∀(g:Nat→Option Ob),(∀i,g i=none)→ ∀nx,tI P true f args g nx fun r1 g1 yT=>Iz r1 res∧g1=g∧yT=nx)(aeE:aaw args)(vh:Zk res)(aeK:cq res=true)(g:Nat→Option Ob)(nx:Nat){r:Nat}(hr:r<1000000):
  j5 P f args g nx (upA r res) g nx:=by
 intro hi E w vs hG hl hv
 have hg:=DF hG
 have aeD: ∀b,E.oH.dH b<1000000:=fun b=>by show(if E.dH b<1000000 then E.dH b else 0)<1000000;split<;>omega
 have hG1:vT E.oH w g nx:=⟨hG.heap,⟨hG.wf.aM,hG.wf.own,fun b o _ hr=>by have:=aeD b;omega⟩,hG.nl,hG.gl,hG.own,hG.gk,fun i ob hh=>(by rw[hg i]at hh;cases hh),hG.ng⟩
 refine(h g hg nx hi E.oH w vs hG1 (fun _ b o _=>aeD b) hl fun q a y ha hy=>(hv q a y ha hy).oH fun r hr=>nC (aeE r hr) q a ha).mono ?_
 rintro e w' ⟨r1,g',gS,x,E1,⟨e1,e2,e3⟩,e4,IF,hE,hS,hc,hir,Ki⟩
 subst e2;subst e3
 have hx:Cz E1 res x:=vZ e1 hc
 have hkr: ∀b,b<E.h.size→E1.dH b=E.oH.dH b:=fun b hb=>(hE.bj b hb (hG.ng b)).2.2.2
 have IC:=hx.up (n0:=E.h.size) (r:=r) (reg':=fun b=>if b<E.h.size then E.dH b else r) (fun b hb=>if_neg (by omega)) (fun b o hs hr=>by
  rcases Nat.lt_or_ge b E.h.size with hb|hb
  ·have:=hkr b hb;have:=aeD b;omega
  ·exact hb) vh
 refine⟨x,E1.upE fun b=>if b<E.h.size then E.dH b else r,e4,⟨IF.heap,⟨IF.wf.aM,IF.wf.own,fun b o hs zT=>?_⟩,IF.nl,IF.gl,IF.own,IF.gk,fun i ob hh=>(by rw[hg i]at hh;cases hh),IF.ng⟩,⟨hE.size,fun b o hs=>⟨(hE.aM b o hs).1,(hE.aM b o hs).2.1,by show(if b<E.h.size then E.dH b else r)=E.dH b;rw[if_pos (hG.wf.aM b o hs)]⟩,hE.live,fun b hb hn=>?_⟩,hS,IC,HY r res aeK,Ki⟩
 ·have zT:1000000≤(if b<E.h.size then E.dH b else r):=zT
  by_cases hb:b<E.h.size
  ·rw[if_pos hb]at zT
   have hk:=hE.bj b hb (hG.ng b)
   obtain⟨c,e,h1⟩:=hG.wf.fz b o ((hk.2.2.1 o).1 hs) zT
   exact⟨c,e,hk.2.1.trans h1⟩
  ·rw[if_neg hb]at zT;omega
 ·have hk:=hE.bj b hb hn
  exact⟨hk.1,hk.2.1,hk.2.2.1,by show(if b<E.h.size then E.dH b else r)=E.dH b;rw[if_pos hb]⟩
end Ab
namespace Ab
open Go
variable{P:Program}{L:nv}{E0 E:Env}{w0 w w':World}{s:St}{a:Act}{C:dK}
theorem Ir{f:Nat}{fn:Func}{c:Code}(hf:P.funcs[f]? =some fn)(hb:fn.body=some c){vs:List Value}{Q:Ex→St→Prop}{R:Ending→World→Prop}
  (aoQ:c.wpIn (WF none) 0 P (BE E0 w0 Q) {tmps:=vs.toArray++Array.replicate (fn.ntmps - vs.toArray.size) undef,defers:=[]} w)(hex: ∀k s',¬Q (.exit k) s')
  (H2: ∀s' E' w' tmps,(Q .normal s'∨Q .ret s')→bn E0 E' w0 w' s' {tmps:=tmps,defers:=[]}→ ∃v,(results fn tmps).run P w'= .ok v w'∧R (.returned v) w'):Calls P f vs.toArray w R:=by
 refine(callsIn_wide (n:=0)).1 (callsIn_of_wp_marks (F:=Fence.wide) hf hb trivial ?_ rfl)
 refine wpIn_mono (F:=Fence.wide) aoQ fun e a w' hq=>?_
 cases e with
 |normal=>obtain⟨s',E',h1,h2⟩:=hq;exact se h2 fun E2 w2 h3=>H2 s' E2 w2 _ (.inl h1) h3
 |ret=>obtain⟨s',E',h1,h2⟩:=hq;exact se h2 fun E2 w2 h3=>H2 s' E2 w2 _ (.inr h1) h3
 |exit k=>obtain⟨s',E',h1,h2⟩:=hq;exact absurd h1 (hex k s')
 |goto l=>exact hq.elim
 |panic c=>exact hq.elim
 |outgrown=>exact hq.elim
theorem tI.ofRaw(ok:Ok P C){f:Nat}{fn:Func}{c:Code}(hf:P.funcs[f]? =some fn)(hb:fn.body=some c){args:List AV}{g:Nat→Option Ob}{nx:Nat}
  (hn:args.length≤fn.ntmps){R:AV→(Nat→Option Ob)→Nat→Prop}(fl:Bool)
  (hk: ∀{E0 E:Env} {w:World} {a:Act},bn E0 E w w (init fn.ntmps args g nx fl) a→c.wpIn (WF none) 0 P (BE E0 w (post C fn.results.toList R)) a w):tI P fl f args g nx R:=by
 intro hi E w vs hG fG hl hv
 refine Ir hf hb (hk (J7 hG fG hl hn hv)) (fun k s' h=>h) fun s' E1 w' tmps hq h=>?_
 have hr:EN C fn.results.toList s' R:=hq.elim id id
 unfold EN at hr
 cases h1:rO C.L s' fn.results.toList with
 |none=>rw[h1]at hr;exact hr.elim
 |some vs=>
  rw[h1]at hr
  dsimp only at hr
  cases h2:jw C.ρ (jR vs) s' with
  |none=>rw[h2]at hr;exact hr.elim
  |some s1=>
   rw[h2]at hr
   dsimp only at hr
   cases h3:rO C.L s1 fn.results.toList with
   |none=>rw[h3]at hr;exact hr.elim
   |some Lh=>
    rw[h3]at hr
    obtain⟨hrp,lG,hR⟩:=hr
    rw[Ay]at hR
    obtain⟨E2,zi,_⟩:=er h h2
    obtain⟨x,h4,h5⟩:=qW ok zi h3 hrp
    have TO:Ab.cq (single (Lh.map rd))=true:=by
     unfold single
     split
     ·rename_i v hv;rw[hv]at lG;simp only[ca,Bool.and_true]at lG;exact lG
     ·exact lG
    refine⟨x,h4,_,_,_,x,E2.mask,hR,rfl,zi.mask,?_,zi.same,?_,?_,fun b hb=>?_⟩
    ·refine⟨zi.ext.size,zi.ext.aM,fun k hk=>?_,fun b hb hg=>?_⟩
     ·cases k with
      |s d=>exact absurd hk (hG.nl d)
      |o i=>obtain⟨k1,k2,k3⟩:=zi.ext.live _ hk;exact⟨⟨rfl,k1⟩,k2,k3⟩
     ·obtain⟨k1,k2,k3,k4⟩:=zi.ext.bj b hb hg
      refine⟨?_,k2,k3,k4⟩
      simp only[Env.mask]
      have k1':E2.own b=E.own b:=k1
      rw[k1',hG.own b];rfl
    ·refine(zb E2).cq ?_ ?_
     ·have h6:single (Lh.map rd)=rd (single Lh):=by
       unfold single
       cases Lh with
       |nil=>rfl
       |cons v r=>cases r with
        |nil=>rfl
        |cons v2 r2=>
         simp only[List.map_cons,rd,qg]
         rw[show kQ (fun _=>true) (v::v2::r2)=(v::v2::r2).map (qg fun _=>true)from by
          generalize v::v2::r2=l
          induction l with
          |nil=>rfl
          |cons x l ih=>simp[kQ,ih]]
         rfl
      rw[h6]
      exact(Cz.ext (Ext.refl (fun _=>False) E2) zi.wf (fun _=>true) (fun _ h=>h.elim) h5).1
     ·exact TO
    ·exact TO
    ·have k2:=(zi.ext.bj b (by show b<E.h.size;rw[←hG.heap];exact hb) (hG.ng b)).2.1
     rw[zi.heap,hG.heap];exact k2
end Ab
namespace Ab
open Go
theorem kn{M:Md}(hM:M= .an){r:Nat}{l:List aj}{B C D F K:Prop}(k:K)(b:B:=by first|assumption|exact⟨rfl,by assumption⟩)
  (c:C:=by cbv;(repeat' apply And.intro);all_goals first|trivial|exact Am (by assumption) (by assumption) rfl _|exact HF (by assumption) (by assumption) _|(refine Mg (by assumption) ?_;simp[mI,An,ri]))
  (d:D:=by cbv;(repeat' apply And.intro);all_goals first|trivial|exact Am (by assumption) (by assumption) rfl _|exact HF (by assumption) (by assumption) _|(refine Mg (by assumption) ?_;simp[mI,An,ri]))
  (f:F:=by cbv;(repeat' apply And.intro);all_goals first|trivial|exact Am (by assumption) (by assumption) rfl _|exact HF (by assumption) (by assumption) _|(refine Mg (by assumption) ?_;simp[mI,An,ri])):
  (Om (.agg [.sl r (M.map (aq M r) l)])∧B∧C∧D∧F)∧K:=⟨⟨Uq hM _,b,c,d,f⟩,k⟩
section
variable{α R S A:Type}
theorem ZH(a b:Int):an.add a b=a+b:=rfl
theorem ZG(a b:Int):an.sub a b=a - b:=rfl
theorem dE(a b:Int):an.aN a b=decide (a=b):=rfl
theorem fY(a b:Int):an.aU a b=decide (a<b):=rfl
theorem DA(a b:Int):an.rG a b=decide (a≤b):=rfl
theorem mc(a b:ByteArray):an.seq a b=decide (a=b):=rfl
theorem cW(a:Bool):an.not a= !a:=rfl
theorem ah8(a b:Bool):an.beq a b=(a==b):=rfl
theorem bA(c a b:Bool):an.pick c a b=(bif c then a else b):=rfl
theorem bD{body:(S→Option R)→S→Option R}(mk:A→Nat→S)(G:A→List α→Nat→Option R)(P:A→Nat→Prop)(l:List α)(hl:l.length≤9223372036854775806)
  (h1: ∀(self:S→Option R) (a:A) (i:Nat) (x:α) (r:List α),P a i→l.drop i=x::r→i<l.length→gI l (i:Int)=some x→an.aU (i:Int) (au l)=true→an.wrap .i64 (an.add (i:Int) 1)=((i+1:Nat):Int)→
   (∀a',P a' (i+1)→self (mk a' (i+1))=G a' r (i+1))→body self (mk a i)=G a (x::r) i)
  (h2: ∀(self:S→Option R) (a:A),P a l.length→an.aU (l.length:Int) (au l)=false→body self (mk a l.length)=G a [] l.length)(n:Nat)(hn:l.length<n)(a:A)(ha:P a 0):iter body n (mk a 0)=G a l 0:=by
 have key: ∀(r:List α) (i n:Nat) (a:A),P a i→l.drop i=r→i≤l.length→r.length<n→iter body n (mk a i)=G a r i:=by
  intro r
  induction r with
  |nil=>
   intro i n a hp hd hi hn
   obtain⟨m,rfl⟩: ∃m,n=m+1:=⟨n - 1,by simp at hn;omega⟩
   have XH:l.length≤i:=by simpa using hd
   have:i=l.length:=by omega
   subst this
   exact h2 _ a hp (by show decide ((l.length:Int)<l.length)=false;simp)
  |cons x r ih=>
   intro i n a hp hd hi hn
   obtain⟨m,rfl⟩: ∃m,n=m+1:=⟨n - 1,by simp at hn;omega⟩
   have aS:i<l.length:=by
    rcases Nat.lt_or_ge i l.length with h|h
    ·exact h
    ·rw[List.drop_eq_nil_of_le h]at hd;cases hd
   have hx:l[i]? =some x:=by
    have:=List.getElem?_drop (xs:=l) (i:=i) (j:=0)
    rw[hd]at this;simpa using this.symm
   have ou:l.drop (i+1)=r:=by
    have:(l.drop i).drop 1=l.drop (i+1):=by rw[List.drop_drop]
    rw[←this,hd];rfl
   refine h1 _ a i x r hp hd aS (by unfold gI;rw[if_pos (by omega)];simpa using hx) (by show decide ((i:Int)<l.length)=true;simp;omega) (by show IntKind.wrap .i64 ((i:Int)+1)=_;rw[dG (by omega)];rfl) fun a' XA=>?_
   exact ih (i+1) m a' XA ou aS (by simp at hn;omega)
 exact key l 0 n a ha rfl (Nat.zero_le _) hn
theorem gH{body:(Int→Option R)→Int→Option R}(G:List α→Nat→Option R)(l:List α)(hl:l.length≤9223372036854775806)
  (h1: ∀(self:Int→Option R) (i:Nat) (x:α) (r:List α),l.drop i=x::r→i<l.length→gI l (i:Int)=some x→an.aU (i:Int) (au l)=true→an.wrap .i64 (an.add (i:Int) 1)=((i+1:Nat):Int)→
   self ((i+1:Nat):Int)=G r (i+1)→body self (i:Int)=G (x::r) i)
  (h2: ∀(self:Int→Option R),an.aU (l.length:Int) (au l)=false→body self (l.length:Int)=G [] l.length)(n:Nat)(hn:l.length<n):iter body n 0=G l 0:=
 bD (A:={u:Unit // True}) (mk:=fun _ i=>(i:Int)) (fun _=>G) (fun _ _=>True) l hl (fun self _ i x r _ hd hi e1 e2 e3 ih=>h1 self i x r hd hi e1 e2 e3 (ih ⟨(),trivial⟩ trivial)) (fun self _ _ e=>h2 self e) n hn ⟨(),trivial⟩ trivial
theorem dA{l:List α}{i:Nat}:gI l (i:Int)=l[i]? :=by simp[gI]
theorem CO{n:Nat}(h:n≤9223372036854775807):IntKind.wrap .i64 (n:Int)=n:=dG (by omega)
theorem Fx{n:Nat}(h:n<9223372036854775807):IntKind.wrap .i64 ((n:Int)+1)=((n+1:Nat):Int):=by rw[dG (by omega)];rfl
def ni(q:α→Bool)(l:List α):Int:=match l.findIdx? q with|some i=>(i:Int)|none=> -1
theorem HZ(q:α→Bool)(l:List α):ni q l<l.length:=by
 unfold ni
 cases h:l.findIdx? q with
 |none=>simp;omega
 |some i=>have:=(List.findIdx?_eq_some_iff_getElem.1 h).1;simp;omega
theorem N0(q:α→Bool)(l:List α): -1≤ni q l:=by
 unfold ni
 split<;>omega
theorem zg(q:α→Bool)(l:List α):decide (0≤ni q l)=l.any q:=by
 unfold ni
 cases h:l.findIdx? q with
 |none=>
  have:=List.findIdx?_eq_none_iff.1 h
  have:l.any q=false:=by rw[List.any_eq_false];intro x hx;simp[this x hx]
  rw[this];rfl
 |some i=>
  obtain⟨h1,h2,_⟩:=List.findIdx?_eq_some_iff_getElem.1 h
  have:l.any q=true:=List.any_eq_true.2 ⟨l[i],List.getElem_mem h1,h2⟩
  rw[this];simp
def As(p:α→Option Bool)(l:List α)(self:Int→Option Int)(z:Int):Option Int:=
 bif an.aU z (au l)then(gI l z).bind fun x=>(p x).bind fun y=>bif y then some z else self (an.wrap .i64 (an.add z 1))else some (-1)
theorem cB{p:α→Option Bool}(q:α→Bool){l:List α}(hp: ∀x∈l,p x=some (q x)){n:Nat}(hn:l.length<n)(hl:l.length≤9223372036854775806):iter (As p l) n 0=some (ni q l):=by
 have:=gH (R:=Int) (body:=As p l) (fun r i=>match r.findIdx? q with|some j=>some ((i+j:Nat):Int)|none=>some (-1)) l hl ?_ ?_ n hn
 ·refine this.trans ?_
  unfold ni
  cases l.findIdx? q<;>simp
 ·intro self i x r hd hi e1 e2 e3 ih
  have hx:p x=some (q x):=hp x (List.mem_of_mem_drop (i:=i) (by rw[hd];simp))
  unfold As
  rw[e2,cond_true,e1,Option.bind_some,hx,Option.bind_some,e3,List.findIdx?_cons]
  cases hq:q x with
  |true=>simp
  |false=>
   rw[cond_false,ih]
   cases r.findIdx? q<;>simp
   omega
 ·intro self e
  unfold As
  rw[e]
  rfl
theorem cD{o:Option Int}{q:α→Bool}{l:List α}(h:o=some (ni q l)):(o.bind fun y=>some (an.rG 0 y))=some (l.any q):=by
 rw[h,Option.bind_some,DA,zg]
theorem vq{g:Bool}{b:Bool}{x:Option α}{d y:α}(h:g=b→x=some y):cL g b x d=some (if g=b then y else d):=by
 unfold cL
 by_cases hg:g=b
 ·subst hg;simp[h rfl]
 ·have:(g==b)=false:=by simpa using hg
  rw[this,if_neg hg];rfl
theorem Qn{g:Bool}{x:Option α}{d y:α}(h:g=true→x=some y):cL g true x d=some (bif g then y else d):=by
 unfold cL
 cases g with
 |true=>simpa using h rfl
 |false=>rfl
theorem Qo{g:Bool}{x:Option α}{d y:α}(h:g=false→x=some y):cL g false x d=some (bif g then d else y):=by
 unfold cL
 cases g with
 |false=>simpa using h rfl
 |true=>rfl
def PZ{β:Type}(q:α→β→Bool):List α→List β→Bool
 |x::r,y::s=>q x y&&PZ q r s
 |[],[]=>true
 |_,_=>false
theorem pa{l:List α}{i:Nat}{x:α}{r:List α}(h:l.drop i=x::r):gI l (i:Int)=some x:=by
 have:=List.getElem?_drop (xs:=l) (i:=i) (j:=0)
 rw[h]at this
 unfold gI
 rw[if_pos (by omega)]
 simpa using this.symm
theorem wz[DecidableEq α]: ∀{l m:List α},PZ (fun x y=>decide (x=y)) l m=decide (l=m)
 |[],[]=>rfl
 |[],_::_=>rfl
 |_::_,[]=>rfl
 |x::r,y::s=>by simp only[PZ,wz (l:=r) (m:=s),List.cons.injEq];by_cases h:x=y<;>by_cases h2:r=s<;>simp[h,h2]
theorem bp{b:Nat}{l:List α}{x:α}(hb:b≤64)(hl:l.length≤1099511627775):aL b l x=some (l++[x]):=by
 unfold aL
 rw[if_pos]
 refine⟨?_,by omega⟩
 calc (l.length+1)*b≤(l.length+1)*64:=Nat.mul_le_mul_left _ hb
  _≤70368744177664:=by omega
theorem Zh{b:Nat}{l m:List α}(hb:b≤64)(hl:l.length+m.length≤1099511627775):It b l m=some (l++m):=by
 unfold It
 rw[if_pos]
 refine⟨?_,by omega⟩
 calc (l.length+m.length)*b≤(l.length+m.length)*64:=Nat.mul_le_mul_left _ hb
  _≤70368744177664:=by omega
theorem HK{b:Nat}{k:Nat}{x:α}(hb:b≤64)(hl:k≤1099511627775):xd b (k:Int) x=some (List.replicate k x):=by
 unfold xd
 rw[if_pos]
 ·simp
 ·refine⟨by omega,by omega,?_⟩
  have:(k:Int)*b≤(k:Int)*64:=Int.mul_le_mul_of_nonneg_left (by omega) (by omega)
  omega
theorem Nw{l:List α}{k:Nat}{x:α}(h:k<l.length):fU l k x=some (l.set k x):=if_pos h
theorem TW{m:Nat}{z:Int}(h:0≤z)(h2:z<m):gN m z=some z.toNat:=if_pos ⟨h,h2⟩
theorem vr{m i:Nat}(h:i<m):gN m (i:Int)=some i:=by rw[TW (by omega) (by omega)];simp
theorem TX{l:List α}{z:Int}(h:0≤z)(h2:z.toNat<l.length):gI l z=some l[z.toNat]:=by unfold gI;rw[if_pos h];simp[h2]
theorem Ut{n:Nat}{l:List α}(h:l.length=n):mU n l=some ():=if_pos h
theorem sd{n:Nat}{l:List α}(h:n=l.length):eu n l=some ():=if_pos h
theorem Gh{l:List α}{k:Nat}(h:k≤l.length):Ej l 0 (k:Int)=some (l.take k):=by
 unfold Ej
 rw[if_pos ⟨by omega,by omega,by omega⟩];simp
theorem PR{l:List α}{k:Nat}(h:k≤l.length):Ej l (k:Int) (au l)=some (l.drop k):=by
 unfold Ej au
 rw[if_pos ⟨by omega,by omega,by omega⟩];simp
end
end Ab
namespace Ab
open Go
set_option maxRecDepth 10000
def opS(o:aI):Prop:=o.name.size≤40∧o.args.length≤9
def brS(x:ag):Prop:=x.head.size≤40∧x.ops.length≤70∧ ∀o∈x.ops,opS o
def blS(b:aj):Prop:=b.name.size≤40∧b.af.length≤9∧ ∀x∈b.af,brS x
def coS(c:ai):Prop:=c.blocks.length≤16∧ ∀b∈c.blocks,blS b
def MZ(o:aI):Bool:=decide (40<o.name.size)||decide (9<o.args.length)
def MY(x:ag):Bool:=(decide (40<x.head.size)||decide (70<x.ops.length))||x.ops.any MZ
def M0(b:aj):Bool:=(decide (40<b.name.size)||decide (9<b.af.length))||b.af.any MY
def UC(c:ai):Bool:=decide (16<c.blocks.length)||c.blocks.any M0
theorem fB(a b:Bool):(bif a then true else b)=(a||b):=by cases a<;>rfl
theorem kP(a b:Bool):(bif a then b else false)=(a&&b):=by cases a<;>rfl
theorem sS(a b:Nat):decide ((a:Int)<(b:Int))=decide (a<b):=by simp
theorem aq0(n:Nat)(o:aI):ik an .an n o=some (MZ o):=by
 unfold ik MZ
 simp only[Option.bind_some,fY,bA,au,lB,fB]
 rw[show(40:Int)=((40:Nat):Int)from rfl,show(9:Int)=((9:Nat):Int)from rfl,sS,sS]
theorem akJ{n:Nat}{l:List aI}(h:l.length<n)(h':l.length≤100):eX an .an n l=some (l.any MZ):=
 cD (cB (p:=ik an .an n) MZ (fun x _=>aq0 n x) h (by omega))
theorem aqZ{n:Nat}(hn:100<n)(x:ag):kC an .an n x=some (MY x):=by
 unfold kC MY
 simp only[Option.bind_some,fY,bA,au,lB,fB]
 rw[show(40:Int)=((40:Nat):Int)from rfl,show(70:Int)=((70:Nat):Int)from rfl,sS,sS]
 rw[vq (y:=x.ops.any MZ) fun hg=>akJ (by simp at hg;omega) (by simp at hg;omega)]
 cases hg:(decide (40<x.head.size)||decide (70<x.ops.length))<;>simp
theorem akI{n:Nat}(hn:100<n){l:List ag}(h':l.length≤9):dN an .an n l=some (l.any MY):=
 cD (cB (p:=kC an .an n) MY (fun x _=>aqZ hn x) (by omega) (by omega))
theorem aqY{n:Nat}(hn:100<n)(x:aj):nO an .an n x=some (M0 x):=by
 unfold nO M0
 simp only[Option.bind_some,fY,bA,au,lB,fB]
 rw[show(40:Int)=((40:Nat):Int)from rfl,show(9:Int)=((9:Nat):Int)from rfl,sS,sS]
 rw[vq (y:=x.af.any MY) fun hg=>akI hn (by simp at hg;omega)]
 cases hg:(decide (40<x.name.size)||decide (9<x.af.length))<;>simp
theorem akH{n:Nat}(hn:100<n){l:List aj}(h':l.length≤16):dX an .an n l=some (l.any M0):=
 cD (cB (p:=nO an .an n) M0 (fun x _=>aqY hn x) (by omega) (by omega))
theorem agv{n:Nat}(hn:100<n)(c:ai):wj an .an n c=some (UC c):=by
 unfold wj UC
 simp only[Option.bind_some,fY,bA,au,lB,fB]
 rw[show(16:Int)=((16:Nat):Int)from rfl,sS]
 rw[vq (y:=c.blocks.any M0) fun hg=>akH hn (by simp at hg;omega)]
 cases hg:(decide (16<c.blocks.length))<;>simp
theorem PV{c:ai}(h:UC c=false):coS c:=by
 simp only[UC,M0,MY,MZ,Bool.or_eq_false_iff,decide_eq_false_iff_not,Nat.not_lt,List.any_eq_false,Bool.not_eq_true,Bool.or_eq_true,not_or,decide_eq_true_eq,List.any_eq_true,not_exists,not_and]at h
 exact⟨h.1,fun b hb=>⟨(h.2 b hb).1.1,(h.2 b hb).1.2,fun x hx=>⟨((h.2 b hb).2 x hx).1.1,((h.2 b hb).2 x hx).1.2,fun o ho=>((h.2 b hb).2 x hx).2 o ho⟩⟩⟩
theorem agu{n:Nat}{l:List Int}(h:l.length≤1000):qG an .an n l=some l:=by
 unfold qG
 rw[Zh (by omega) (by simp;omega)]
 rfl
theorem anH{n:Nat}(hn:100<n){x:ag}(hx:brS x)(k:List aI×Int→Option ai):iter (lu an .an n (au x.ops) x k) n ([],0)=k (x.ops,(x.ops.length:Int)):=by
 have:=bD (body:=lu an .an n (au x.ops) x k) (mk:=fun a i=>(a,(i:Int))) (fun a r i=>k (a++r,(x.ops.length:Int))) (fun a i=>a.length=i) x.ops (by have:=hx.2.1;omega) ?_ ?_ n (by have:=hx.2.1;omega) [] rfl
 ·simpa using this
 ·intro self a i o r ha hd hi e1 e2 e3 ih
  have ho:=hx.2.2 o (List.mem_of_mem_drop (i:=i) (by rw[hd];simp))
  have hl:=hx.2.1
  simp only[lu,e2,cond_true,e1,Option.bind_some,agu (show o.args.length≤1000 by have:=ho.2;omega)]
  rw[bp (by omega) (by omega),Option.bind_some,e3,ih _ (by simp[ha])]
  simp
 ·intro self a ha e
  simp only[lu,e,cond_false]
  simp
theorem anI{n:Nat}(hn:100<n){b:aj}(hb:blS b)(k:List ag×Int→Option ai):iter (lx an .an n (au b.af) b k) n ([],0)=k (b.af,(b.af.length:Int)):=by
 have:=bD (body:=lx an .an n (au b.af) b k) (mk:=fun a i=>(a,(i:Int))) (fun a r i=>k (a++r,(b.af.length:Int))) (fun a i=>a.length=i) b.af (by have:=hb.2.1;omega) ?_ ?_ n (by have:=hb.2.1;omega) [] rfl
 ·simpa using this
 ·intro self a i o r ha hd hi e1 e2 e3 ih
  have ho:=hb.2.2 o (List.mem_of_mem_drop (i:=i) (by rw[hd];simp))
  have hl:=hb.2.1
  simp only[lx,e2,cond_true,e1,Option.bind_some,anH hn ho]
  rw[bp (by omega) (by omega),Option.bind_some,e3,ih _ (by simp[ha])]
  simp
 ·intro self a ha e
  simp only[lx,e,cond_false]
  simp
theorem UK{n:Nat}(hn:100<n){c:ai}(hc:coS c):pg an .an n c=some c:=by
 unfold pg
 rw[Option.bind_some]
 have:=bD (body:=nN an .an n c (au c.blocks) (fun(u9,BJ)=>some (⟨u9⟩:ai))) (mk:=fun a i=>(a,(i:Int))) (fun a r i=>some ⟨a++r⟩) (fun a i=>a.length=i) c.blocks (by have:=hc.1;omega) ?_ ?_ n (by have:=hc.1;omega) [] rfl
 ·simpa using this
 ·intro self a i o r ha hd hi e1 e2 e3 ih
  have ho:=hc.2 o (List.mem_of_mem_drop (i:=i) (by rw[hd];simp))
  have hl:=hc.1
  simp only[nN,e2,cond_true,e1,Option.bind_some,anI hn ho]
  rw[bp (by omega) (by omega),Option.bind_some,e3,ih _ (by simp[ha])]
  simp
 ·intro self a ha e
  simp only[nN,e,cond_false]
  simp
def o9(c:UInt8):Bool:=decide (97≤c.toNat)&&decide (c.toNat≤122)
def bU(s:ByteArray):List UInt8:=s.data.toList
def eZ(s:ByteArray):Bool:=(decide (1≤s.size)&&decide (s.size≤8))&&(bU s).all o9
theorem Eo(s:ByteArray):(bU s).length=s.size:=rfl
theorem MO(s:ByteArray)(i:Nat):gB s (i:Int)=(bU s)[i]?.map fun c=>(c.toNat:Int):=by
 unfold gB
 rw[if_pos (by omega)]
 have:s[(i:Int).toNat]? =(bU s)[i]? :=by
  simp only[bU,Int.toNat_natCast]
  by_cases h:i<s.size
  ·rw[getElem?_pos s i h,List.getElem?_eq_getElem (by simpa[←ByteArray.size_data]using h)]
   rfl
  ·rw[getElem?_neg s i h,List.getElem?_eq_none (by simpa[←ByteArray.size_data]using h)]
 rw[this]
theorem TY{s:ByteArray}{i:Nat}{c:UInt8}(h:gI (bU s) (i:Int)=some c):gB s (i:Int)=some (c.toNat:Int):=by
 rw[MO,←dA,h];rfl
theorem ux{n:Nat}(hn:100<n)(s:ByteArray):lh an .an n s=some (eZ s):=by
 unfold lh Ad eZ
 simp only[Option.bind_some,fY,bA,lB,fB]
 by_cases hs:1≤s.size∧s.size≤8
 ·have h1:(decide ((s.size:Int)<1)||decide ((8:Int)<s.size))=false:=by simp;omega
  rw[h1,cond_false,decide_eq_true hs.1,decide_eq_true hs.2,Bool.true_and,Bool.true_and]
  refine gH (R:=Bool) (fun r i=>some (r.all o9)) (bU s) (by rw[Eo];omega) ?_ ?_ n (by rw[Eo];omega)
  ·intro self i c r hd hi e1 e2 e3 ih
   have hz:lB s=au (bU s):=rfl
   simp only[nB,hz,Option.bind_some,e2,cond_true,TY e1,e3,ih,vq (fun _=>rfl)]
   simp only[fY,bA,fB,List.all_cons]
   by_cases h1:(c.toNat:Int)<97
   ·have:o9 c=false:=by unfold o9;simp;omega
    simp[h1,this]
   ·by_cases h2:(122:Int)<c.toNat
    ·have:o9 c=false:=by unfold o9;simp;omega
     have h3:(97:Int)≤c.toNat:=by omega
     simp[h1,h2,h3,this]
    ·have:o9 c=true:=by unfold o9;simp;omega
     have h3:(97:Int)≤c.toNat:=by omega
     simp[h1,h2,h3,this]
  ·intro self e
   have hz:lB s=au (bU s):=rfl
   simp only[nB,hz,Option.bind_some,e,cond_false]
   rfl
 ·have h1:(decide ((s.size:Int)<1)||decide ((8:Int)<s.size))=true:=by simp;omega
  have h2:(decide (1≤s.size)&&decide (s.size≤8))=false:=by simp;omega
  rw[h1,cond_true,h2,Bool.false_and]
def wi:ByteArray:=⟨#[97,98,99,100,101,102,103,104,105,106,107,108,109,110,111,112,113,114,115,116,117,118,119,120,121,122]⟩
def wD:List Bool:=(List.range 256).map fun i=>decide (97≤i)&&decide (i≤122)
theorem WB(m:Nat):iM an .an (m+30) wi=some (wD,true):=by kernel_rfl
theorem Q3{c:UInt8}:gK wD c.toNat=some (o9 c):=by
 have h:=c.toNat_lt
 unfold gK wD o9
 simp[h]
theorem ahp(k:ByteArray→Option ByteArray): ∀(m:Nat) (z:ByteArray) (n:Nat),z.size=m→m<n→m≤1000→ ∃t,iter (cM an .an 0 (wD,true) k) n z=k t∧t.size≤m∧((bU z).all o9=true→t.size=0)∧((bU z).all o9=false→(bU t).all o9=false):=by
 intro m
 induction m with
 |zero=>
  intro z n hz hn hm
  obtain⟨n,rfl⟩: ∃j,n=j+1:=⟨n - 1,by omega⟩
  refine⟨z,?_,by omega,fun _=>hz,fun h=>h⟩
  show cM an .an 0 (wD,true) k _ z=k z
  simp[cM,lB,hz,fY]
 |succ m ih=>
  intro z n hz hn hm
  obtain⟨n,rfl⟩: ∃j,n=j+1:=⟨n - 1,by omega⟩
  have hlen:(bU z).length=m+1:=hz
  have TL:(bU z)[m]? =some ((bU z)[m]'(by omega)):=List.getElem?_eq_getElem _
  generalize hc:(bU z)[m]'(by omega)=c at TL
  have Tv:an.wrap .i64 (an.sub ((m+1:Nat):Int) 1)=(m:Int):=by show IntKind.wrap .i64 (((m+1:Nat):Int) - 1)=_;rw[show(((m+1:Nat):Int) - 1)=(m:Int)by omega];exact CO (by omega)
  have hg:gB z (m:Int)=some (c.toNat:Int):=by rw[MO,TL];rfl
  have aS:an.aU 0 ((m+1:Nat):Int)=true:=by rw[fY];exact decide_eq_true (by omega)
  show∃t,cM an .an 0 (wD,true) k (iter (cM an .an 0 (wD,true) k) n) z=k t∧_
  simp only[cM,lB,hz,Option.bind_some,aS,cond_true,Tv,hg,vr (show c.toNat<256 from c.toNat_lt),Q3,cW]
  have H0:bU z=(bU z).take m++[c]:=by
   rw[←hc,List.take_append_getElem,List.take_of_length_le (by omega)]
  cases hq:o9 c with
  |false=>
   refine⟨z,by simp,by omega,fun h=>?_,fun h=>h⟩
   rw[H0,List.all_append]at h
   simp[hq]at h
  |true=>
   have aeU:El z 0 (m:Int)=some (z.extract 0 m):=by
    unfold El
    rw[if_pos ⟨by omega,by omega,by omega⟩];simp
   obtain⟨t,h1,h2,h3,h4⟩:=ih (z.extract 0 m) n (by rw[ByteArray.size_extract];omega) (by omega) (by omega)
   have hb:bU (z.extract 0 m)=(bU z).take m:=by
    unfold bU
    rw[ByteArray.data_extract,Array.toList_extract,List.extract_eq_take_drop]
    simp
   have jD:(bU z).all o9=(bU (z.extract 0 m)).all o9:=by
    conv=>lhs;rw[H0]
    rw[List.all_append,hb];simp[hq]
   refine⟨t,?_,by omega,fun h=>h3 (by rw[←jD];exact h),fun h=>h4 (by rw[←jD];exact h)⟩
   simp only[Bool.not_true,cond_false,aeU,Option.bind_some]
   exact h1
theorem aho(k:ByteArray→Option ByteArray): ∀(m:Nat) (z:ByteArray) (n:Nat),z.size=m→m<n→m≤1000→ ∃t,iter (bZ an .an 0 (wD,true) k) n z=k t∧t.size≤m∧((bU z).all o9=true→t.size=0)∧((bU z).all o9=false→(bU t).all o9=false):=by
 intro m
 induction m with
 |zero=>
  intro z n hz hn hm
  obtain⟨n,rfl⟩: ∃j,n=j+1:=⟨n - 1,by omega⟩
  refine⟨z,?_,by omega,fun _=>hz,fun h=>h⟩
  show bZ an .an 0 (wD,true) k _ z=k z
  simp[bZ,lB,hz,fY]
 |succ m ih=>
  intro z n hz hn hm
  obtain⟨n,rfl⟩: ∃j,n=j+1:=⟨n - 1,by omega⟩
  have hlen:(bU z).length=m+1:=hz
  obtain⟨c,r,hcr⟩: ∃c r,bU z=c::r:=by
   cases h:bU z with
   |nil=>rw[h]at hlen;simp at hlen
   |cons c r=>exact⟨c,r,rfl⟩
  have hg:gB z 0=some (c.toNat:Int):=by have:=MO z 0;rw[hcr]at this;exact this
  have aS:an.aU 0 ((m+1:Nat):Int)=true:=by rw[fY];exact decide_eq_true (by omega)
  show∃t,bZ an .an 0 (wD,true) k (iter (bZ an .an 0 (wD,true) k) n) z=k t∧_
  simp only[bZ,lB,hz,Option.bind_some,aS,cond_true,hg,vr (show c.toNat<256 from c.toNat_lt),Q3,cW]
  cases hq:o9 c with
  |false=>
   refine⟨z,by simp,by omega,fun h=>?_,fun h=>h⟩
   rw[hcr]at h
   simp[hq]at h
  |true=>
   have aeU:El z 1 ((m+1:Nat):Int)=some (z.extract 1 (m+1)):=by
    unfold El
    rw[if_pos ⟨by omega,by omega,by omega⟩];rfl
   obtain⟨t,h1,h2,h3,h4⟩:=ih (z.extract 1 (m+1)) n (by rw[ByteArray.size_extract];omega) (by omega) (by omega)
   have hb:bU (z.extract 1 (m+1))=r:=by
    have:bU (z.extract 1 (m+1))=(bU z).extract 1 (m+1):=by
     unfold bU
     rw[ByteArray.data_extract,Array.toList_extract]
    rw[this,hcr,List.extract_eq_take_drop]
    have hr:r.length=m:=by rw[hcr]at hlen;simpa using hlen
    simp[hr]
    rw[←hr];simp
   have jD:(bU z).all o9=(bU (z.extract 1 (m+1))).all o9:=by
    rw[hcr,hb];simp[hq]
   refine⟨t,?_,by omega,fun h=>h3 (by rw[←jD];exact h),fun h=>h4 (by rw[←jD];exact h)⟩
   simp only[Bool.not_true,cond_false,aeU,Option.bind_some]
   exact h1
theorem OS{s:ByteArray}:s.size=0↔s=⟨#[]⟩:=by
 constructor
 ·intro h
  obtain⟨⟨l⟩⟩:=s
  have:l.length=0:=h
  cases l with
  |nil=>rfl
  |cons a r=>simp at this
 ·rintro rfl;rfl
theorem Zi{n:Nat}(hn:100<n){s:ByteArray}(hs:s.size≤50): ∃t,ju an .an n s wi=some t∧((bU s).all o9=true↔t=⟨#[]⟩):=by
 obtain⟨m,rfl⟩: ∃m,n=m+30:=⟨n - 30,by omega⟩
 unfold ju
 have hl:an.seq wi ⟨#[]⟩=false:=by kernel_rfl
 have hz:lB wi=26:=by kernel_rfl
 rw[hl,hz]
 simp only[bA,mc,Option.bind_some,dE]
 by_cases h0:s=⟨#[]⟩
 ·subst h0
  refine⟨⟨#[]⟩,rfl,?_⟩
  simp[bU]
 ·rw[decide_eq_false h0,cond_false,cond_false]
  have hd:decide ((26:Int)=1)=false:=by decide
  simp only[hd,cond_false]
  obtain⟨t1,a1,a2,a3,a4⟩:=ahp (fun eg=>iter (bZ an .an 0 (wD,true) (fun AS=>some AS)) (m+30) eg) s.size s (m+30) rfl (by omega) (by omega)
  obtain⟨t2,b1,b2,b3,b4⟩:=aho (fun AS=>some AS) t1.size t1 (m+30) rfl (by omega) (by omega)
  refine⟨t2,?_,?_⟩
  ·simp only[cL,show((false==true)=false)from rfl,cond_false,Option.bind_some,WB,mU,List.length_replicate,if_true,cond_true]
   have:iter (cM an Md.an (m+30) (wD,true) fun eg=>iter (bZ an Md.an (m+30) (wD,true) fun AS=>some AS) (m+30) eg) (m+30) s=iter (cM an .an 0 (wD,true) fun eg=>iter (bZ an .an 0 (wD,true) (fun AS=>some AS)) (m+30) eg) (m+30) s:=rfl
   rw[this,a1]
   exact b1
  ·cases jD:(bU s).all o9 with
   |true=>
    have e1:=a3 jD
    have e2:t2.size=0:=by omega
    exact⟨fun _=>OS.1 e2,fun _=>rfl⟩
   |false=>
    have e2:=b4 (a4 jD)
    refine⟨(fun h=>by cases h),fun h=>?_⟩
    subst h
    simp[bU]at e2
theorem tH{n:Nat}(hn:100<n)(s:ByteArray):nn an .an n s=some (eZ s):=by
 unfold nn eZ
 simp only[Option.bind_some,fY,DA,bA,lB,kP,mc]
 have hd:(decide ((0:Int)<s.size)&&decide ((s.size:Int)≤8))=(decide (1≤s.size)&&decide (s.size≤8)):=by
  rw[Bool.eq_iff_iff];simp;omega
 rw[hd]
 cases hg:(decide (1≤s.size)&&decide (s.size≤8))with
 |false=>
  rw[vq (y:=default) (fun h=>by cases h)]
  simp
 |true=>
  have hs:s.size≤50:=by simp at hg;omega
  obtain⟨t,h1,h2⟩:=Zi hn hs
  have:cL true true (ju an .an n s wi) default=some t:=h1
  show(cL true true (ju an .an n s wi) default).bind _=_
  rw[this,Option.bind_some]
  congr 1
  rw[Bool.eq_iff_iff]
  simpa using h2.symm
def uX(x:ag):Bool:=decide (1≤x.ops.length)&&decide (x.ops.length≤60)
def re(x:ag):Bool:=decide (0≤x.kids)&&decide (x.kids≤4)
def gG(x:ag):Bool:=decide (x.head=⟨#[]⟩)
def rf(x:ag):Bool:=gG x||eZ x.head
def alone(n:Nat)(x:ag):Bool:=gG x&&(decide (1<n)|| !decide (x.kids=0))
def eqv(x y:ag):Bool:=decide (x.head=y.head)&&decide (x.kids=y.kids)
def dup:List ag→List ag→Bool
 |_,[]=>false
 |p,x::r=>p.any (eqv x)||dup (p++[x]) r
def lP(b:aj):Int:=
 bif decide (b.af.length<1)||decide (6<b.af.length)|| !b.af.all uX then 2
 else bif decide (b.arity<0)||decide (4<b.arity)|| !b.af.all re then 3
 else bif !eZ b.name|| !b.af.all rf then 4
 else bif b.af.any (alone b.af.length)||(decide (b.arity=0)&& !b.af.all gG)then 7
 else bif dup [] b.af then 5 else 0
theorem nK{α:Type}(q:α→Bool)(l:List α):(!l.any fun x=> !q x)=l.all q:=by
 induction l with
 |nil=>rfl
 |cons x r ih=>simp only[List.any_cons,List.all_cons,Bool.not_or,Bool.not_not,ih]
theorem every{o:Option Bool}{q:ag→Bool}{l:List ag}(h:o=some (l.any fun x=> !q x)):(o.bind fun y=>some (an.not y))=some (l.all q):=by
 rw[h,Option.bind_some,cW,nK]
section
variable{n:Nat}(hn:100<n)
 include hn
theorem ev1{l:List ag}(h:l.length≤16):jq an .an n l=some (l.all uX):=
 every (cD (cB (p:=gQ an .an n) (fun x=> !uX x) (fun x _=>by
  show some (!(bif (decide ((0:Int)<x.ops.length))then(decide ((x.ops.length:Int)≤60))else false))=_
  rw[kP];unfold uX
  rw[show decide ((0:Int)<x.ops.length)=decide (1≤x.ops.length)by rw[decide_eq_decide];omega,show decide ((x.ops.length:Int)≤60)=decide (x.ops.length≤60)by rw[decide_eq_decide];omega]) (by omega) (by omega)))
theorem ev2{l:List ag}(h:l.length≤16):jo an .an n l=some (l.all re):=
 every (cD (cB (p:=gP an .an n) (fun x=> !re x) (fun x _=>by
  show some (!(bif (decide ((0:Int)≤x.kids))then(decide (x.kids≤4))else false))=_
  rw[kP];rfl) (by omega) (by omega)))
theorem ev3{l:List ag}(h:l.length≤16):jn an .an n l=some (l.all rf):=
 every (cD (cB (p:=gO an .an n) (fun x=> !rf x) (fun x _=>by
  show(Option.bind (kO an .an n x) fun y1=>some (an.not y1))=_
  unfold kO jI
  rw[Option.bind_some,Qo (y:=eZ x.head) fun _=>tH hn _]
  simp only[Option.bind_some,cW,bA,mc,rf,gG]
  cases decide (x.head=⟨#[]⟩)<;>rfl) (by omega) (by omega)))
theorem ev4{l:List ag}(h:l.length≤16):jm an .an n l=some (l.all gG):=
 every (cD (cB (p:=gM an .an n) (fun x=> !gG x) (fun x _=>rfl) (by omega) (by omega)))
theorem ev5{l:List ag}(h:l.length≤16)(b:aj):dM an .an n l b=some (l.any (alone b.af.length)):=
 cD (cB (p:=fun x=>kN an .an n x b) (alone b.af.length) (fun x _=>by
  unfold kN jI alone gG
  simp only[Option.bind_some,cW,bA,mc,fY,dE,au,fB,kP]
  rw[show decide ((1:Int)<b.af.length)=decide (1<b.af.length)by rw[decide_eq_decide];omega]) (by omega) (by omega))
theorem ix8{l:List ag}(h:l.length≤16)(x:ag):eB an .an n l x=some (ni (fun y=>eqv y x) l):=
 cB (p:=fun y=>my an .an n y x) (fun y=>eqv y x) (fun y _=>by
  show some (bif (decide (y.head=x.head))then(decide (y.kids=x.kids))else false)=_
  rw[kP];rfl) (by omega) (by omega)
theorem ix9{l:List ag}(h:l.length≤16)(x:ag):ez an .an n l x=some (ni (fun y=>eqv y x) l):=
 cB (p:=fun y=>mw an .an n y x) (fun y=>eqv y x) (fun y _=>by
  show some (bif (decide (y.head=x.head))then(decide (y.kids=x.kids))else false)=_
  rw[kP];rfl) (by omega) (by omega)
end
def qj(x:ag):ByteArray×Int:=(x.head,x.kids)
theorem qN(x y:ag):eqv x y=true↔qj x=qj y:=by simp[eqv,qj]
def FB(l:List ag)(x:ag):Bool:=(l.drop ((ni (fun y=>eqv y x) l).toNat+1)).any fun y=>eqv y x
theorem Ic: ∀(r p:List ag),(p.map qj).Nodup→(dup p r=true↔ ¬((p++r).map qj).Nodup)
 |[],p,hp=>by simp[dup,hp]
 |x::r,p,hp=>by
  simp only[dup,Bool.or_eq_true,List.any_eq_true]
  by_cases hx: ∃y,y∈p∧eqv x y=true
  ·constructor
   ·intro _ hnd
    obtain⟨y,hy,he⟩:=hx
    rw[List.map_append,List.nodup_append]at hnd
    exact hnd.2.2 (qj y) (List.mem_map_of_mem hy) (qj x) (by simp) ((qN x y).1 he).symm
   ·intro _;exact .inl hx
  ·have XA:((p++[x]).map qj).Nodup:=by
    rw[List.map_append,List.nodup_append]
    refine⟨hp,by simp,fun a ha b hb Ki=>hx ?_⟩
    obtain⟨y,hy,rfl⟩:=List.mem_map.1 ha
    have:b=qj x:=by simpa using hb
    exact⟨y,hy,(qN x y).2 (this▸Ki).symm⟩
   have:=Ic r (p++[x]) XA
   rw[List.append_assoc]at this
   constructor
   ·rintro(h|h)
    ·exact absurd h hx
    ·exact this.1 h
   ·intro h;exact .inr (this.2 h)
theorem OM(l:List ag):(l.any (FB l)=true↔ ¬(l.map qj).Nodup):=by
 constructor
 ·intro h hnd
  obtain⟨x,hx,h⟩:=List.any_eq_true.1 h
  unfold FB at h
  obtain⟨y,hy,he⟩:=List.any_eq_true.1 h
  have hex:l.any (fun y=>eqv y x)=true:=List.any_eq_true.2 ⟨x,hx,by rw[qN]⟩
  rw[←zg]at hex
  have hex:0≤ni (fun y=>eqv y x) l:=by simpa using hex
  unfold ni at hex hy
  cases hf:l.findIdx? (fun y=>eqv y x)with
  |none=>rw[hf]at hex;simp at hex
  |some i=>
   rw[hf]at hy
   obtain⟨h1,h2,_⟩:=List.findIdx?_eq_some_iff_getElem.1 hf
   have H0:l=l.take (i+1)++l.drop (i+1):=(List.take_append_drop _ _).symm
   rw[H0,List.map_append,List.nodup_append]at hnd
   simp at hy
   exact hnd.2.2 (qj l[i]) (List.mem_map_of_mem (by rw[List.mem_take_iff_getElem];exact⟨i,by omega,rfl⟩)) (qj y) (List.mem_map_of_mem hy) (((qN _ _).1 h2).trans ((qN _ _).1 he).symm)
 ·intro h
  rcases Bool.eq_false_or_eq_true (l.any (FB l))with hc|hc
  ·exact hc
  ·exfalso
   apply h
   rw[List.any_eq_false]at hc
   unfold List.Nodup
   rw[List.pairwise_iff_getElem]
   intro i j hi hj hij he
   simp only[List.length_map]at hi hj
   have he:qj l[i]=qj l[j]:=by simpa using he
   refine hc l[i] (List.getElem_mem _) ?_
   unfold FB
   rw[List.any_eq_true]
   refine⟨l[j],?_,(qN _ _).2 he.symm⟩
   have hle:(ni (fun y=>eqv y l[i]) l).toNat≤i:=by
    unfold ni
    cases hf:l.findIdx? (fun y=>eqv y l[i])with
    |none=>simp
    |some k=>
     obtain⟨k1,k2,k3⟩:=List.findIdx?_eq_some_iff_getElem.1 hf
     show k≤i
     rcases Nat.lt_or_ge i k with aS|XH
     ·have:=k3 i aS
      exact absurd ((qN l[i] l[i]).2 rfl) this
     ·exact XH
   rw[List.mem_drop_iff_getElem]
   exact⟨j - ((ni (fun y=>eqv y l[i]) l).toNat+1),by omega,by congr 1;omega⟩
theorem ON(l:List ag):l.any (FB l)=dup [] l:=by
 rw[Bool.eq_iff_iff,OM,Ic l [] (by simp)];rfl
section
variable{n:Nat}(hn:100<n)
 include hn
theorem ix7{b:aj}(h:b.af.length≤16):cK an .an n b.af b=some (dup [] b.af):=by
 rw[←ON]
 refine cD (cB (p:=fun x=>im an .an n x b) (FB b.af) (fun x hx=>?_) (by omega) (by omega))
 show im an .an n x b=_
 unfold im
 rw[ix8 hn h,Option.bind_some]
 have h1:=HZ (fun y=>eqv y x) b.af
 have h2:0≤ni (fun y=>eqv y x) b.af:=by
  have:=zg (fun y=>eqv y x) b.af
  rw[List.any_eq_true.2 ⟨x,hx,by rw[qN]⟩]at this
  simpa using this
 have h3:an.wrap .i64 (an.add (ni (fun y=>eqv y x) b.af) 1)=(((ni (fun y=>eqv y x) b.af).toNat+1:Nat):Int):=by
  show IntKind.wrap .i64 _=_
  rw[ZH,dG (by omega)]
  omega
 rw[h3,PR (by omega),Option.bind_some,ix9 hn (by simp;omega),Option.bind_some,DA,zg]
 rfl
theorem Rc{b:aj}(h:b.af.length≤16):tG an .an n b=some (lP b):=by
 unfold tG lP
 simp only[Option.bind_some,au]
 rw[Qo (y:=b.af.all uX) fun _=>ev1 hn h,Option.bind_some]
 rw[Qo (y:=b.af.all re) fun _=>ev2 hn h]
 simp only[Option.bind_some,tH hn]
 rw[Qo (y:=b.af.all rf) fun _=>ev3 hn h]
 simp only[Option.bind_some,ev5 hn h]
 rw[Qn (y:=b.af.all gG) fun _=>ev4 hn h]
 simp only[Option.bind_some]
 have h7:cK an .an n b.af ⟨b.name,b.arity,b.af⟩=some (dup [] b.af):=ix7 hn h
 rw[h7]
 simp only[Option.bind_some,fY,bA,cW,dE,fB,kP]
 rw[show decide ((b.af.length:Int)<1)=decide (b.af.length<1)by rw[decide_eq_decide];omega,show decide ((6:Int)<b.af.length)=decide (6<b.af.length)by rw[decide_eq_decide];omega]
 cases decide (b.af.length<1)<;>cases decide (6<b.af.length)<;>cases b.af.all uX<;>simp
 cases decide (b.arity<0)<;>cases decide (4<b.arity)<;>cases b.af.all re<;>simp
 cases eZ b.name<;>cases b.af.all rf<;>simp
 cases b.af.any (alone b.af.length)<;>simp
 cases decide (b.arity=0)<;>cases b.af.all gG<;>cases dup [] b.af<;>simp
end
end Ab
namespace Ab
open Go
set_option maxRecDepth 10000
theorem rh(n:Nat)(a b c:Int):ew an .an n a b c=some (decide (a<b)||decide (c<a)):=by
 unfold ew
 rw[bA,fY,fY,fB]
theorem sT{α R:Type}{body:(Int→Option R)→Int→Option R}{k:Int→Option R}(e:R)(q:α→Bool)(l:List α)(hl:l.length≤1000)
  (h1: ∀(self:Int→Option R) (i:Nat) (x:α),x∈l→gI l (i:Int)=some x→an.aU (i:Int) (au l)=true→an.wrap .i64 (an.add (i:Int) 1)=((i+1:Nat):Int)→body self (i:Int)=bif q x then some e else self ((i+1:Nat):Int))
  (h2: ∀(self:Int→Option R),an.aU (l.length:Int) (au l)=false→body self (l.length:Int)=k (l.length:Int)){n:Nat}(hn:l.length<n):iter body n 0=bif l.any q then some e else k (l.length:Int):=by
 refine gH (fun r _=>bif r.any q then some e else k (l.length:Int)) l (by omega) ?_ ?_ n hn
 ·intro self i x r hd hi e1 e2 e3 ih
  rw[h1 self i x (List.mem_of_mem_drop (i:=i) (by rw[hd];simp)) e1 e2 e3,ih,List.any_cons]
  cases q x<;>rfl
 ·intro self e
  exact h2 self e
theorem PO{l:List ag}{i:Nat}{x:ag}{b:aj}(hb:b.af=l)(hx:gI l (i:Int)=some x)(hi:i<l.length){n:Nat}(hn:100<n)(hl:l.length≤16)(k:Int→Option Int):
  iter (eF an .an n b (i:Int) k) n 0=bif (l.take i).any (eqv x)then some 5 else k ((l.take i).length:Int):=by
 have hlen:au (l.take i)=(i:Int):=by unfold au;simp;omega
 refine sT 5 (eqv x) (l.take i) (by simp;omega) ?_ ?_ (by simp;omega)
 ·intro self j y hy e1 e2 e3
  have hj:gI l (j:Int)=some y:=by
   rw[dA]at e1 ⊢
   rw[List.getElem?_take]at e1
   split at e1
   ·exact e1
   ·cases e1
  rw[hlen]at e2
  simp only[eF,e2,cond_true,hb,hx,hj,Option.bind_some,e3]
  rw[Qn (y:=x) fun _=>rfl,Option.bind_some,Qn (y:=y) fun _=>rfl,Option.bind_some]
  simp only[bA,mc,dE,eqv]
  cases decide (x.head=y.head)<;>simp
 ·intro self e
  rw[hlen]at e
  simp only[eF,e,cond_false]
section
variable{n:Nat}(hn:100<n)
 include hn
theorem Fk{b:aj}(hb:b.af.length≤16):jy an .an n b=some (lP b):=by
 unfold jy
 simp only[Option.bind_some,rh,au]
 rw[show decide ((b.af.length:Int)<1)=decide (b.af.length<1)by rw[decide_eq_decide];omega,show decide ((6:Int)<b.af.length)=decide (6<b.af.length)by rw[decide_eq_decide];omega]
 cases h0:(decide (b.af.length<1)||decide (6<b.af.length))with
 |true=>unfold lP;rw[h0];simp
 |false=>
 rw[cond_false]
 have w1: ∀k:Int→Option Int,iter (eJ an .an n b k) n 0=bif b.af.any (fun x=> !uX x)then some 2 else k (b.af.length:Int):=by
  intro k
  refine sT (R:=Int) 2 (fun x=> !uX x) b.af (by omega) ?a1 ?a2 (by omega)
  case a1=>
   intro self i x hx e1 e2 e3
   simp only[eJ,Option.bind_some,e2,cond_true,e1,e3,rh]
   congr 1
   unfold uX au
   rw[show decide ((x.ops.length:Int)<1)= !decide (1≤x.ops.length)by rw[←decide_not,decide_eq_decide];omega,show decide ((60:Int)<x.ops.length)= !decide (x.ops.length≤60)by rw[←decide_not,decide_eq_decide];omega,Bool.not_and]
  case a2=>intro self e;simp only[eJ,Option.bind_some,e,cond_false]
 have w2: ∀k:Int→Option Int,iter (eI an .an n b k) n 0=bif b.af.any (fun x=> !re x)then some 3 else k (b.af.length:Int):=by
  intro k
  refine sT (R:=Int) 3 (fun x=> !re x) b.af (by omega) ?b1 ?b2 (by omega)
  case b1=>
   intro self i x hx e1 e2 e3
   simp only[eI,Option.bind_some,e2,cond_true,e1,e3,rh]
   congr 1
   unfold re
   rw[show decide (x.kids<0)= !decide (0≤x.kids)by rw[←decide_not,decide_eq_decide];omega,show decide ((4:Int)<x.kids)= !decide (x.kids≤4)by rw[←decide_not,decide_eq_decide];omega,Bool.not_and]
  case b2=>intro self e;simp only[eI,Option.bind_some,e,cond_false]
 have w3: ∀k:Int→Option Int,iter (eH an .an n b k) n 0=bif b.af.any (fun x=> !rf x)then some 4 else k (b.af.length:Int):=by
  intro k
  refine sT (R:=Int) 4 (fun x=> !rf x) b.af (by omega) ?c1 ?c2 (by omega)
  case c1=>
   intro self i x hx e1 e2 e3
   simp only[eH,Option.bind_some,e2,cond_true,e1,e3]
   rw[Qn (y:=x) fun _=>rfl,Option.bind_some,Qn (y:=eZ x.head) fun h=>by rw[h,cond_true];exact ux hn _]
   simp only[Option.bind_some,bA,cW,mc,rf,gG]
   cases decide (x.head=⟨#[]⟩)<;>simp
  case c2=>intro self e;simp only[eH,Option.bind_some,e,cond_false]
 have w4: ∀k:Int→Option Int,iter (eG an .an n b k) n 0=bif b.af.any (fun x=>alone b.af.length x||(!gG x&&decide (b.arity=0)))then some 7 else k (b.af.length:Int):=by
  intro k
  refine sT (R:=Int) 7 (fun x=>alone b.af.length x||(!gG x&&decide (b.arity=0))) b.af (by omega) ?d1 ?d2 (by omega)
  case d1=>
   intro self i x hx e1 e2 e3
   simp only[eG,Option.bind_some,e2,cond_true,e1,e3]
   congr 1
   simp only[bA,cW,mc,dE,fY,alone,gG,au,fB,kP]
   rw[show decide ((1:Int)<b.af.length)=decide (1<b.af.length)by rw[decide_eq_decide];omega]
  case d2=>intro self e;simp only[eG,Option.bind_some,e,cond_false]
 have h5: ∀k:Int→Option Int,iter (dB an .an n b k) n 0=bif dup [] b.af then some 5 else k (b.af.length:Int):=by
  intro k
  have:=bD (A:={u:Unit // True}) (body:=dB an .an n b k) (mk:=fun _ i=>(i:Int)) (fun _ r i=>bif dup (b.af.take i) r then some 5 else k (b.af.length:Int)) (fun _ _=>True) b.af (by omega) ?_ ?_ n (by omega) ⟨(),trivial⟩ trivial
  ·simpa using this
  ·intro self a i x r _ hd hi e1 e2 e3 ih
   have ih:=ih ⟨(),trivial⟩ trivial
   simp only[dB,Option.bind_some,e2,cond_true]
   rw[PO rfl e1 hi hn hb,e3,ih]
   have ht:b.af.take (i+1)=b.af.take i++[x]:=by
    have hx:b.af[i]? =some x:=by rwa [dA]at e1
    rw[List.take_add_one,hx];rfl
   rw[ht]
   simp only[dup]
   cases(b.af.take i).any (eqv x)<;>rfl
  ·intro self a _ e
   simp only[dB,Option.bind_some,e,cond_false,dup]
 simp only[w1,w2,w3,w4,h5,rh,ux hn,Option.bind_some,cW]
 unfold lP
 have KU: ∀q:ag→Bool,(b.af.any fun x=> !q x)= !b.af.all q:=fun q=>by rw[←nK,Bool.not_not]
 rw[h0,KU,KU,KU]
 have hd:(b.af.any fun x=>alone b.af.length x||(!gG x&&decide (b.arity=0)))=(b.af.any (alone b.af.length)||(decide (b.arity=0)&& !b.af.all gG)):=by
  rw[←KU]
  generalize alone b.af.length=q
  induction b.af with
  |nil=>simp
  |cons x r ih=>
   simp only[List.any_cons]
   rw[ih]
   cases q x<;>cases gG x<;>cases decide (b.arity=0)<;>cases r.any q<;>simp
 rw[hd]
 cases b.af.all uX<;>simp
 cases decide (b.arity<0)<;>cases decide (4<b.arity)<;>cases b.af.all re<;>simp
 cases eZ b.name<;>cases b.af.all rf<;>simp
 cases b.af.any (alone b.af.length)<;>simp
 cases decide (b.arity=0)<;>cases b.af.all gG<;>cases dup [] b.af<;>simp
end
end Ab
