/- PassesDrops holds of every core (no condition): a part of the proof: an abstract interpreter of the code that is proved sound, models of the functions, and laws of these models. -/
import Derived.Test.YtcdinjhcnhepeaaGreatDoorD01
import Derived.DeepKeys3
import Derived.ChangeArms
import Derived.ChangeSame
import Derived.Test.YtcdinjhcnhepeaaGreatDoorCards
import Derived.Test.YtcdinjhcnhepeaaGreatDoorTie
import Derived.ProofKit
import Derived.OpenShut
import Derived.WideKeyArgs
import Derived.Deep.DeepHandedRow
import Derived.Lib.LaidTab
set_option linter.unusedVariables false
set_option linter.unusedSimpArgs false
namespace Ab
open Go
variable{P:Program}{L:nO}{E:Env}{w0 w w':World}{r:Nat}{a:Act}{n:Nat}{t:List (Nat×Value)}
def lU(n:Nat)(a:Act)(t:List (Nat×Value)):Prop:=a.tmps.size=n∧a.defers=[]∧ ∀d x,look d t=some x→a.tmps.getD d undef=x
theorem lU.put(h:lU n a t){d:Nat}(hd:d<n)(x:Value):lU n (a.put (some d) x) (cR d x t):=by
 refine⟨by simp[Act.put,h.1],h.2.1,fun e y he=>?_⟩
 rw[vk a d e x (by rw[h.1];exact hd)]
 rw[aF]at he
 by_cases QZ:e=d
 ·subst QZ;rw[if_pos rfl]at he;cases he;rw[if_pos rfl]
 ·rw[if_neg (Ne.symm QZ)]at he;rw[if_neg QZ];exact h.2.2 e y he
theorem lU.ev(h:lU n a t){d:Nat}{x:Value}(hd:look d t=some x):a.eval (.tmp d)=x:=h.2.2 d x hd
theorem lU.sub(h:lU n a t){t':List (Nat×Value)}(hs: ∀d x,look d t'=some x→look d t=some x):lU n a t':=⟨h.1,h.2.1,fun d x hd=>h.2.2 d x (hs d x hd)⟩
def NE(R:Act→World→Prop):Exit→Act→World→Prop:=fun e a w=>e= .normal∧R a w
theorem PG{x y:Code}{R1 R2:Act→World→Prop}(h:x.wpIn (WF none) 0 P (NE R1) a w)(k: ∀a w,R1 a w→y.wpIn (WF none) 0 P (NE R2) a w):(Code.seq x y).wpIn (WF none) 0 P (NE R2) a w:=
 wpIn_seq (wpIn_mono h fun e a' w' hq=>by
  obtain⟨rfl,hR⟩:=hq
  exact k a' w' hR)
theorem Xa{id:Nat}{ops:Array Oper}{R:Act→World→Prop}(h:wpListIn (WF none) 0 P ops (NE R) ops.toList a w):(Code.region id ops false).wpIn (WF none) 0 P (NE R) a w:=wpIn_region_list h
theorem aq5{id:Nat}{c:Code}{R:Act→World→Prop}(h:c.wpIn (WF none) 0 P (NE R) a w):(Code.block id c).wpIn (WF none) 0 P (NE R) a w:=
 wpIn_block (wpIn_mono h fun e a' w' hq=>by obtain⟨rfl,hR⟩:=hq;exact⟨rfl,hR⟩)
theorem xq{ops:Array Oper}{o:Oper}{rest:List Oper}{Q:Exit→Act→World→Prop}{x:Value}(hg:o.guard=none)(hr:(execOp a.eval o).run P w= .ok (.value x) w')(h:wpListIn (WF none) 0 P ops Q rest (a.put o.dst x) w'):
  wpListIn (WF none) 0 P ops Q (o::rest) a w:=by
 unfold wpListIn
 rw[if_pos (by simp[Region.wanted,hg])]
 have:lj P o a w (fun a w=>wpListIn (WF none) 0 P ops Q rest a w) Q:=by
  unfold lj;rw[hr];exact h
 exact this.wpIn none
theorem acs{ops:Array Oper}{o:Oper}{rest:List Oper}{Q:Exit→Act→World→Prop}(hg:o.guard=none)(hr:(execOp a.eval o).run P w= .ok .skip w')(h:wpListIn (WF none) 0 P ops Q rest (a.put o.dst undef) w'):
  wpListIn (WF none) 0 P ops Q (o::rest) a w:=by
 unfold wpListIn
 rw[if_pos (by simp[Region.wanted,hg])]
 have:lj P o a w (fun a w=>wpListIn (WF none) 0 P ops Q rest a w) Q:=by
  unfold lj;rw[hr];exact h
 exact this.wpIn none
section ops
variable{ops:Array Oper}{o:Oper}{rest:List Oper}{Q:Exit→Act→World→Prop}{d:Nat}
theorem Oe(hL:bn P L)(hf:lU n a t){T x f b q off:Nat}(ho:o.op= .fieldAddr T (.tmp x) f)(hg:o.guard=none)(hd:o.dst=some d)(aU:r6 d n=true)(hx:look x t=some (.pointer (some ⟨b,q,none⟩)))(vU:fS L T f=some off)
  (h: ∀a',lU n a' (cR d (.pointer (some ⟨b,q+off,none⟩)) t)→wpListIn (WF none) 0 P ops Q rest a' w):wpListIn (WF none) 0 P ops Q (o::rest) a w:=by
 refine xq hg (x:= .pointer (some ⟨b,q+off,none⟩)) (w':=w) ?_ ?_
 ·simp only[execOp,ho,hf.ev hx];simp[lB hL vU]
 ·rw[hd];exact h _ (hf.put (by simpa using aU) _)
theorem RQ(hf:lU n a t){x:Operand}(ho:o.op= .move x)(hg:o.guard=none)(hd:o.dst=some d)(aU:r6 d n=true){v:Value}(hx:a.eval x=v)
  (h: ∀a',lU n a' (cR d v t)→wpListIn (WF none) 0 P ops Q rest a' w):wpListIn (WF none) 0 P ops Q (o::rest) a w:=by
 refine xq hg (x:=v) (w':=w) ?_ ?_
 ·simp[execOp,ho,hx]
 ·rw[hd];exact h _ (hf.put (by simpa using aU) _)
theorem Z2(hf:lU n a t){op:BinOp}{T:Nat}{x y:Operand}{u v z:Value}{ty:Nat}(ho:o.op= .binOp op T x y ty)(hg:o.guard=none)(hd:o.dst=some d)(aU:r6 d n=true)(hx:a.eval x=u)(hy:a.eval y=v)(hb:bin al op u v=some z)
  (h: ∀a',lU n a' (cR d z t)→wpListIn (WF none) 0 P ops Q rest a' w):wpListIn (WF none) 0 P ops Q (o::rest) a w:=by
 refine xq hg (x:=z) (w':=w) ?_ ?_
 ·have hg: ∀w,(eqGuard op T x y (a.eval x) (a.eval y)).run P w= .ok () w:=by
   intro w
   rw[hx,hy]
   unfold bin at hb
   split at hb<;>first|(simp[eqGuard,go_sem];done)|(simp at hb)
  simp only[hx,hy]at hg
  simp only[execOp,ho,hx,hy]
  simp[Sem.run_bind,hg,GK hb,Result.andThen]
 ·rw[hd];exact h _ (hf.put (by simpa using aU) _)
theorem ahX(hL:bn P L)(hf:lU n a t){c:Call}{x T e:Nat}{ti:TI}{A:Option Addr}{m k:Nat}(ho:o.op= .call c)(hc:c.callee= .builtin .len)(ha:c.args= #[.tmp x])(hT:c.argTypes= #[T])(hg:o.guard=none)(hd:o.dst=some d)(aU:r6 d n=true)
  (ht:L T=some ti)(hk:ti.k= .slice e)(hx:look x t=some (.slice A m k))
  (h: ∀a',lU n a' (cR d (.int .i64 m) t)→wpListIn (WF none) 0 P ops Q rest a' w):wpListIn (WF none) 0 P ops Q (o::rest) a w:=by
 obtain⟨i,d',z,h1,h2,h3,h4,h5,h6,h7⟩:=(hL.ok T ti ht).ex
 rw[hk]at h7;dsimp only at h7;subst h7
 refine xq hg (x:= .int .i64 m) (w':=w) ?_ ?_
 ·have e1:(Builtin.len_ #[T] o.type #[.slice A m k]).run P w= .ok (.int .i64 m) w:=by simp[Builtin.len_,go_sem,underlying,h6,goInt]
  simp[execOp,ho,resolve,hc,invoke,builtin,ha,hT,Sem.run_bind,hf.ev hx,e1,Result.andThen]
 ·rw[hd];exact h _ (hf.put (by simpa using aU) _)
theorem Xd(hL:bn P L)(hf:lU n a t){T x y e b q m c:Nat}{i:Nat}{ti:TI}(ho:o.op= .indexAddr T (.tmp x) (.tmp y))(hg:o.guard=none)(hd:o.dst=some d)(aU:r6 d n=true)(ht:elemOf L T=some (e,ti))
  (hx:look x t=some (.slice (some ⟨b,q,none⟩) m c))(hy:look y t=some (.int .i64 i))(hi:i<m)
  (h: ∀a',lU n a' (cR d (.pointer (some ⟨b,q+i*ti.size,none⟩)) t)→wpListIn (WF none) 0 P ops Q rest a' w):wpListIn (WF none) 0 P ops Q (o::rest) a w:=by
 refine xq hg (x:= .pointer (some ⟨b,q+i*ti.size,none⟩)) (w':=w) ?_ ?_
 ·simp only[execOp,ho,hf.ev hx,hf.ev hy]
  have:=iW (P:=P) hL ht .i64 i b q m c (by omega) (by omega) w
  simp only[Int.toNat_natCast]at this
  simp[this]
 ·rw[hd];exact h _ (hf.put (by simpa using aU) _)
theorem Xc(hL:bn P L)(hf:lU n a t){T x b q:Nat}{ti:TI}{ys:List Value}(ho:o.op= .load T (.tmp x))(hg:o.guard=none)(hd:o.dst=some d)(aU:r6 d n=true)(ht:L T=some ti)(sW:ti.agg=true)(hl:ys.length=ti.size)
  (hx:look x t=some (.pointer (some ⟨b,q,none⟩)))(hy: ∀(j:Nat) (y:Value),ys[j]? =some y→aR w.heap b (q+j)=some y)
  (h: ∀a',lU n a' (cR d (.agg ys.toArray) t)→wpListIn (WF none) 0 P ops Q rest a' w):wpListIn (WF none) 0 P ops Q (o::rest) a w:=by
 have hp:part ti (ys.map AV.v) 0=some (.agg (ys.map .v)):=by
  unfold part
  have h1:lL (0+ti.size) (ys.map AV.v).length=true:=by rw[ye];simp[hl]
  rw[h1,sW]
  simp only[cond_true,cut,List.drop_zero]
  rw[List.take_of_length_le (by simp[hl])]
 obtain⟨y,g1,g2⟩:=iV (P:=P) (E:=⟨#[],fun _ _=>False,fun _=>0,fun _=>0,fun _=>False,fun _=>(0,0),fun _=> .Tu,[]⟩) (w:=w) hL ht (b:=b) (o:=q) hp (fun j a' ha=>by
  rw[List.getElem?_map]at ha
  cases hj:ys[j]? with
  |none=>rw[hj]at ha;cases ha
  |some y=>rw[hj]at ha;cases ha;exact⟨y,hy j y hj,.v _⟩)
 have QV:y= .agg ys.toArray:=by
  cases g2 with
  |agg _ zs tz hq=>
   congr 1
   congr 1
   apply List.ext_getElem
   ·simpa using tz
   ·intro j h1 h2
    have:=hq j (.v ys[j]) zs[j] (by simp[h2]) (by simp[h1])
    exact bG this
 subst QV
 refine xq hg (x:= .agg ys.toArray) (w':=w) ?_ ?_
 ·simp only[execOp,ho,hf.ev hx]
  simp[show(Instr.loadAt T (.pointer (some ⟨b,q,none⟩))).run P w= .ok (.agg ys.toArray) w from by simpa using g1]
 ·rw[hd];exact h _ (hf.put (by simpa using aU) _)
theorem Od(hL:bn P L)(hf:lU n a t){T x b q:Nat}{ti:TI}{y:Value}(ho:o.op= .load T (.tmp x))(hg:o.guard=none)(hd:o.dst=some d)(aU:r6 d n=true)(ht:L T=some ti)(sW:ti.agg=false)(hl:ti.size=1)
  (hx:look x t=some (.pointer (some ⟨b,q,none⟩)))(hy:aR w.heap b q=some y)
  (h: ∀a',lU n a' (cR d y t)→wpListIn (WF none) 0 P ops Q rest a' w):wpListIn (WF none) 0 P ops Q (o::rest) a w:=by
 have hp:part ti [AV.v y] 0=some (.v y):=by
  unfold part
  rw[show lL (0+ti.size) [AV.v y].length=true by rw[ye];simp[hl],sW]
  rfl
 obtain⟨y',g1,g2⟩:=iV (P:=P) (E:=⟨#[],fun _ _=>False,fun _=>0,fun _=>0,fun _=>False,fun _=>(0,0),fun _=> .Tu,[]⟩) (w:=w) hL ht (b:=b) (o:=q) hp (fun j a' ha=>by
  cases j with
  |zero=>cases ha;exact⟨y,hy,.v _⟩
  |succ j=>simp at ha)
 have:=bG g2
 subst this
 refine xq hg (x:=y') (w':=w) ?_ ?_
 ·simp only[execOp,ho,hf.ev hx]
  simp[show(Instr.loadAt T (.pointer (some ⟨b,q,none⟩))).run P w= .ok y' w from by simpa using g1]
 ·rw[hd];exact h _ (hf.put (by simpa using aU) _)
theorem Xf(hL:bn P L)(hf:lU n a t){T:Nat}{ti:TI}(ho:o.op= .alloc T)(hg:o.guard=none)(hd:o.dst=some d)(aU:r6 d n=true)(ht:L T=some ti)
  (h: ∀a',lU n a' (cR d (.pointer (some ⟨w.heap.size,0,none⟩)) t)→wpListIn (WF none) 0 P ops Q rest a' (w.alloc (.cells ti.zero.toArray T))):wpListIn (WF none) 0 P ops Q (o::rest) a w:=by
 obtain⟨i,d',z,h1,h2,h3,h4,h5,h6,h7⟩:=(hL.ok T ti ht).ex
 have hz:z.cells=ti.zero.toArray:=by rw[←h5]
 refine xq hg (x:= .pointer (some ⟨w.heap.size,0,none⟩)) (w':=w.alloc (.cells ti.zero.toArray T)) ?_ ?_
 ·simp only[execOp,ho]
  simp[Gd h1 h4,hz]
 ·rw[hd];exact h _ (hf.put (by simpa using aU) _)
theorem ahY(hf:lU n a t){T x:Nat}{v:Value}(ho:o.op= .box T (.tmp x))(hg:o.guard=none)(hd:o.dst=some d)(aU:r6 d n=true)(hx:look x t=some v)
  (h: ∀a',lU n a' (cR d (.pointer (some ⟨w.heap.size,0,none⟩)) t)→wpListIn (WF none) 0 P ops Q rest a' (w.alloc (.cells v.cells T))):wpListIn (WF none) 0 P ops Q (o::rest) a w:=by
 refine xq hg (x:= .pointer (some ⟨w.heap.size,0,none⟩)) (w':=w.alloc (.cells v.cells T)) ?_ ?_
 ·simp only[execOp,ho,Instr.box,newVar,hf.ev hx]
  simp[gj]
 ·rw[hd];exact h _ (hf.put (by simpa using aU) _)
theorem RP(hL:bn P L)(hf:lU n a t){T x y b e:Nat}{ti:TI}{ys:List Value}{c:Array Value}(ho:o.op= .store T (.tmp x) (.tmp y))(hg:o.guard=none)(hd:o.dst=none)(ht:L T=some ti)(hl:ys.length=ti.size)(hv: ∀x∈ys,rR x=true)
  (hx:look x t=some (.pointer (some ⟨b,0,none⟩)))(hy:look y t=some (.agg ys.toArray))(hb:w.heap[b]? =some (.cells c e (0,0)))(hc:c.size=ti.size)
  (h: ∀w',w'.heap=w.heap.setIfInBounds b (.cells ys.toArray e (0,0))→iz w w'→wpListIn (WF none) 0 P ops Q rest a w'):wpListIn (WF none) 0 P ops Q (o::rest) a w:=by
 have iH:(Value.agg ys.toArray).cells=ys.toArray:=by simp[Value.cells]
 obtain⟨w',g1,g2,g3⟩:=run_store (P:=P) hL ht (off:=0) (v:= .agg ys.toArray) hb (by rw[iH];simpa using hl) (by omega) (by rw[iH];exact hv)
 rw[iH]at g2
 obtain⟨f1,f2⟩:=pR 0 ys 0 c (by omega)
 have hF:(ys.zipIdx.foldl (fun cs (x,j)=>cs.setIfInBounds (0+j) x) c)=ys.toArray:=by
  apply Array.ext_getElem?
  intro q
  rw[f2 q]
  by_cases hq:q<ys.length
  ·rw[if_pos (by omega)];simp
  ·rw[if_neg (by omega),Array.getElem?_eq_none (by omega),Array.getElem?_eq_none (by simpa using hq)]
 refine acs hg (w':=w') ?_ ?_
 ·simp only[execOp,ho,hf.ev hx,hf.ev hy]
  simp[g1]
 ·rw[hd];exact h w' (by rw[g2];simp only[];rw[hF]) g3
end ops
theorem pQ{d:Nat}{x:Value}(h:lU n a (cR d x t))(hd:look d t=none):lU n a t:=
 h.sub fun e y he=>by
  have:d≠e:=fun hh=>by subst hh;rw[hd]at he;cases he
  rw[aF,if_neg this];exact he
theorem aiR{g1 g2 k k1 ti tn tc tx m:Nat}{o1 o2 o3:Oper}{body:Code}{bp:List (Nat×Value)}{J:World→Prop}
  (h1:o1.op= .binOp .lss 3 (.tmp ti) (.tmp tn) 3∧o1.guard=none∧o1.dst=some tc)(h2:o2.op= .binOp .add 3 (.tmp ti) (.const (.int .i64 1)) 3∧o2.guard=none∧o2.dst=some tx)(h3:o3.op= .move (.tmp tx)∧o3.guard=none∧o3.dst=some ti)
  (aU:(r6 ti n&&(r6 tc n&&r6 tx n))=true)(hn:look tn bp=some (.int .i64 m))(hm:m≤maxLen)(cM:look ti bp=none∧look tc bp=none∧look tx bp=none∧ti≠tc∧ti≠tx∧ti≠tn)
  (h0:lU n a (cR ti (.int .i64 0) bp))(hJ:J w)
  (hb: ∀i a w,i<m→lU n a (cR ti (.int .i64 i) bp)→J w→body.wpIn (WF none) 0 P (NE fun a' w'=>lU n a' (cR ti (.int .i64 i) bp)∧J w') a w):
  (Code.block k (Code.loop ((Code.region g1 #[o1] false).seq ((Code.cond (.tmp tc) .skip (.exit k)).seq ((Code.block k1 body).seq (Code.region g2 #[o2,o3] false)))))).wpIn (WF none) 0 P (NE fun a' w'=>lU n a' bp∧J w') a w:=by
 simp only[Bool.and_eq_true]at aU
 refine wpIn_block ?_
 refine uG (fun q a w=> ∃i,i≤m∧q=m - i∧lU n a (cR ti (.int .i64 i) bp)∧J w) m ⟨0,Nat.zero_le _,rfl,h0,hJ⟩ ?_
 rintro q a w ⟨i,hi,rfl,hf,hJ⟩
 have ug:look ti (cR ti (Value.int .i64 i) bp)=some (.int .i64 i):=bI _ _ _
 have OI:look tn (cR ti (Value.int .i64 i) bp)=some (.int .i64 m):=by rw[aF,if_neg cM.2.2.2.2.2];exact hn
 refine wpIn_seq (wpIn_region_list ?_)
 refine Z2 (z:= .bool (decide ((i:Int)<m))) hf h1.1 h1.2.1 h1.2.2 aU.2.1 (hf.ev ug) (hf.ev OI) (by simp[bin,al]) fun a1 f1=>?_
 show Code.wpIn _ _ _ _ _ _ _
 refine wpIn_seq (wpIn_cond (t:=decide ((i:Int)<m)) (f1.ev (bI _ _ _)) ?_)
 by_cases lV:i<m
 ·rw[if_pos (by simpa using lV)]
  refine wpIn_skip ?_
  show Code.wpIn _ _ _ _ _ _ _
  have f2:lU n a1 (cR ti (.int .i64 i) bp):=pQ f1 (by rw[aF,if_neg cM.2.2.2.1];exact cM.2.1)
  refine wpIn_seq (wpIn_mono (aq5 (hb i a1 w lV f2 hJ)) fun e a3 w3 hq=>?_)
  obtain⟨rfl,f3,J3⟩:=hq
  show Code.wpIn _ _ _ _ _ _ _
  refine wpIn_region_list ?_
  refine Z2 (z:= .int .i64 ((i+1:Nat):Int)) f3 h2.1 h2.2.1 h2.2.2 aU.2.2 (f3.ev ug) rfl ?_ fun a4 f4=>?_
  ·have hM:maxLen=9223372036854775807:=by decide
   have h4:IntKind.wrap .i64 ((i:Int)+1)=((i+1:Nat):Int):=by
    unfold IntKind.wrap
    simp only[IntKind.bits,IntKind.signed,Bool.true_and]
    rw[if_neg (by simp;omega)]
    omega
   show(some (Value.int .i64 (IntKind.wrap .i64 ((i:Int)+1))):Option Value)=_
   rw[h4]
  refine RQ f4 h3.1 h3.2.1 h3.2.2 aU.1 (f4.ev (bI _ _ _)) fun a5 f5=>?_
  refine wpListIn_nil ?_
  show∃n',n'<m - i∧_
  refine⟨m - (i+1),by omega,i+1,by omega,rfl,f5.sub fun e y he=>?_,J3⟩
  rw[aF]at he ⊢
  by_cases hte:ti=e
  ·rw[if_pos hte]at he ⊢;exact he
  ·rw[if_neg hte]at he ⊢
   have:tx≠e:=fun hh=>by subst hh;rw[cM.2.2.1]at he;cases he
   rw[aF,if_neg this,aF,if_neg hte];exact he
 ·rw[if_neg (by simpa using lV)]
  refine wpIn_exit ?_
  show Exit.inBlock k _ (.exit k) _ _
  simp only[Exit.inBlock,if_true]
  exact⟨rfl,pQ (pQ f1 (by rw[aF,if_neg cM.2.2.2.1];exact cM.2.1)) cM.1,hJ⟩
end Ab
namespace Ab
open Go
variable{P:Program}{L:nO}{E:Env}{w0 w w':World}{r:Nat}{a:Act}{n:Nat}{t bp:List (Nat×Value)}{row:List (Value→Prop)}
structure xF(row:List (Value→Prop)):Prop where
 zk: ∀S∈row,∀u,S u→S (zk u)
 one: ∀S∈row,∀u,S u→rR u=true
 pos:0<row.length
theorem Xe(hL:bn P L)(h:fA E r w0 w)(hw:Wf E)(hr:1000000≤r)(hf:lU n a t){ops:Array Oper}{o:Oper}{rest:List Oper}{Q:Exit→Act→World→Prop}{c:Call}{x T e:Nat}{ti te:TI}{v:Value}(ho:o.op= .call c)(hc:c.callee= .builtin .clear)(ha:c.args= #[.tmp x])(hT:c.argTypes= #[T])(hg:o.guard=none)(hd:o.dst=none)
  (hx:look x t=some v)(hv:oN E r row v)(hR:xF row)(ht:L T=some ti)(hk:ti.k= .slice e)(he:L e=some te)(hl:te.zero.length=row.length)(hz: ∀(q:Nat) (S:Value→Prop) (z u:Value),row[q]? =some S→te.zero[q]? =some z→S u→zk u=z)
  (k: ∀w',fA E r w0 w'→Lk E w w'→wpListIn (WF none) 0 P ops Q rest a w'):wpListIn (WF none) 0 P ops Q (o::rest) a w:=by
 obtain⟨w',g1,g2,g3⟩:=h.clear (P:=P) hL hw hr hv (ty:=o.type) ht hk he hR.pos hl hz
 refine xq hg (x:= .tuple #[]) (w':=w') ?_ ?_
 ·simp[execOp,ho,resolve,hc,invoke,builtin,ha,hT,Sem.run_bind,hf.ev hx,g1,Result.andThen]
 ·rw[hd];exact k w' g2 g3
theorem akp(hL:bn P L)(hw:Wf E){id T e ts ti tp tv tb:Nat}{o1 o2 o3 o4:Oper}{A:Option Addr}{m c i:Nat}{te:TI}{R:Act→World→Prop}
  (h1:o1.op= .indexAddr T (.tmp ts) (.tmp ti)∧o1.guard=none∧o1.dst=some tp)(h2:o2.op= .load e (.tmp tp)∧o2.guard=none∧o2.dst=some tv)(h3:o3.op= .alloc e∧o3.guard=none∧o3.dst=some tb)(h4:o4.op= .store e (.tmp tb) (.tmp tv)∧o4.guard=none∧o4.dst=none)
  (aU:(r6 tp n&&(r6 tv n&&r6 tb n))=true)(cM:tp≠tv∧tv≠tb∧look tp bp=none∧look tv bp=none∧tp≠tb)(sn:elemOf L T=some (e,te))(he:L e=some te)(sW:te.agg=true)(du:te.size=row.length)
  (hs:look ts bp=some (.slice A m c))(hi:look ti bp=some (.int .i64 i))(lV:i<m)(hv:oN E r row (.slice A m c))(hR:xF row)(hf:lU n a bp)(h:fA E r w0 w)
  (k: ∀a' w' B (ys:List Value),E.h.size≤B→w'.heap[B]? =some (.cells ys.toArray e (0,0))→ys.length=row.length→(∀(q:Nat) (S:Value→Prop) (y:Value),row[q]? =some S→ys[q]? =some y→S y)→
   lU n a' (cR tb (.pointer (some ⟨B,0,none⟩)) bp)→fA E r w0 w'→Lk E w w'→R a' w'):
  (Code.region id #[o1,o2,o3,o4] false).wpIn (WF none) 0 P (NE R) a w:=by
 simp only[Bool.and_eq_true]at aU
 obtain⟨b,o,rfl,ys,y1,y2,y3⟩:=h.row hw hv hR.zk lV
 have e8: ∀{d:Nat} {x y:Value} {t:List (Nat×Value)} {e:Nat},e≠d→look d t=some y→look d (cR e x t)=some y:=fun hh hy=>by rw[aF,if_neg hh];exact hy
 have nek: ∀{d e:Nat} {x:Value},look e bp=none→look d bp=some x→e≠d:=fun h1 h2 hh=>by subst hh;rw[h1]at h2;cases h2
 refine Xa ?_
 refine Xd hL hf h1.1 h1.2.1 h1.2.2 aU.1 sn hs hi lV fun a1 f1=>?_
 rw[du]at f1
 refine Xc hL f1 (ys:=ys) h2.1 h2.2.1 h2.2.2 aU.2.1 he sW (by rw[du];exact y1) (bI _ _ _) (fun j y hj=>y2 j y hj) fun a2 f2=>?_
 refine Xf hL f2 h3.1 h3.2.1 h3.2.2 aU.2.2 he fun a3 f3=>?_
 have yg: ∀x∈ys,rR x=true:=fun x hx=>by
  obtain⟨q,hq⟩:=List.getElem?_of_mem hx
  have uV:q<row.length:=by rw[←y1];exact(List.getElem?_eq_some_iff.1 hq).1
  exact hR.one _ (List.getElem_mem uV) _ (y3 q _ x (List.getElem?_eq_getElem uV) hq)
 refine RP (ys:=ys) hL f3 h4.1 h4.2.1 h4.2.2 he (by rw[du];exact y1) yg (bI _ _ _) (e8 (Ne.symm cM.2.1) (bI _ _ _)) (GN _) (by rw[List.size_toArray];exact(hL.ok e te he).Lz) fun w1 g1 g2=>?_
 have Nk:w.heap.size<(w.alloc (.cells te.zero.toArray e)).heap.size:=by show _<(w.heap.push _).size;rw[Array.size_push];omega
 refine wpListIn_nil ⟨rfl,k _ _ w.heap.size ys h.size ?_ y1 y3 ?_ ((h.alloc _).anJ h.size g1 g2) ?_⟩
 ·rw[g1];rw[Array.getElem?_setIfInBounds_self_of_lt Nk]
 ·refine f3.sub fun d x hd=>?_
  rw[aF]at hd ⊢
  by_cases hbd:tb=d
  ·rw[if_pos hbd]at hd ⊢;exact hd
  ·rw[if_neg hbd]at hd ⊢
   rw[aF,if_neg (nek cM.2.2.2.1 hd),aF,if_neg (nek cM.2.2.1 hd)];exact hd
 ·refine⟨by rw[g1,Array.size_setIfInBounds];omega,fun b' eI Cn=>?_⟩
  rw[g1,Array.getElem?_setIfInBounds_ne (by omega)]
  exact(Lk.alloc (.cells te.zero.toArray e)).2 b' eI Cn
theorem Qq(hL:bn P L){id T f tb tp tv tn ti B off e T2 e2:Nat}{LW:TI}{o1 o2 o3 o4:Oper}{cl:Call}{ys:List Value}{A:Option Addr}{m c:Nat}{R:Act→World→Prop}
  (h1:o1.op= .fieldAddr T (.tmp tb) f∧o1.guard=none∧o1.dst=some tp)(h2:o2.op= .load T2 (.tmp tp)∧o2.guard=none∧o2.dst=some tv)(h3:o3.op= .call cl∧o3.guard=none∧o3.dst=some tn)(iH:cl.callee= .builtin .len∧cl.args= #[.tmp tv]∧cl.argTypes= #[T2])
  (h4:o4.op= .move (.const (.int .i64 0))∧o4.guard=none∧o4.dst=some ti)
  (aU:(r6 tp n&&(r6 tv n&&(r6 tn n&&r6 ti n)))=true)(cM:tp≠tv∧tp≠tn∧tp≠ti∧tv≠tn∧tv≠ti∧tn≠ti∧look tp bp=none∧look tv bp=none∧look tn bp=none)(vU:fS L T f=some off)(XX:L T2=some LW)(Ef:LW.k= .slice e2)(Lw:LW.size=1)
  (hb:look tb bp=some (.pointer (some ⟨B,0,none⟩)))(hw:w.heap[B]? =some (.cells ys.toArray e (0,0)))(hy:ys[off]? =some (.slice A m c))(hf:lU n a bp)
  (k: ∀a',lU n a' (cR ti (.int .i64 0) (cR tn (.int .i64 m) (cR tv (.slice A m c) bp)))→R a' w):
  (Code.region id #[o1,o2,o3,o4] false).wpIn (WF none) 0 P (NE R) a w:=by
 simp only[Bool.and_eq_true]at aU
 refine Xa ?_
 refine Oe hL hf h1.1 h1.2.1 h1.2.2 aU.1 hb vU fun a1 f1=>?_
 rw[Nat.zero_add]at f1
 refine Od hL f1 (y:= .slice A m c) h2.1 h2.2.1 h2.2.2 aU.2.1 XX (by unfold TI.agg;rw[Ef]) Lw (bI _ _ _) (by unfold aR;rw[hw];simpa using hy) fun a2 f2=>?_
 refine ahX hL f2 h3.1 iH.1 iH.2.1 iH.2.2 h3.2.1 h3.2.2 aU.2.2.1 XX Ef (bI _ _ _) fun a3 f3=>?_
 refine RQ f3 h4.1 h4.2.1 h4.2.2 aU.2.2.2 (v:= .int .i64 0) rfl fun a4 f4=>?_
 refine wpListIn_nil ⟨rfl,k a4 (f4.sub fun d x hd=>?_)⟩
 rw[aF]at hd ⊢
 by_cases e1:ti=d
 ·rw[if_pos e1]at hd ⊢;exact hd
 ·rw[if_neg e1]at hd ⊢
  rw[aF]at hd ⊢
  by_cases e2:tn=d
  ·rw[if_pos e2]at hd ⊢;exact hd
  ·rw[if_neg e2]at hd ⊢
   rw[aF]at hd ⊢
   by_cases e3:tv=d
   ·rw[if_pos e3]at hd ⊢;exact hd
   ·rw[if_neg e3]at hd ⊢
    rw[aF,if_neg (fun hh=>by subst hh;rw[cM.2.2.2.2.2.2.1]at hd;cases hd)];exact hd
theorem KW(hL:bn P L)(hW:Wf E)(hr:1000000≤r){id T f tb tp tv B off e T2 e2:Nat}{LW te:TI}{o1 o2 o3:Oper}{cl:Call}{ys:List Value}{v:Value}{R:Act→World→Prop}
  (h1:o1.op= .fieldAddr T (.tmp tb) f∧o1.guard=none∧o1.dst=some tp)(h2:o2.op= .load T2 (.tmp tp)∧o2.guard=none∧o2.dst=some tv)(h3:o3.op= .call cl∧o3.guard=none∧o3.dst=none)(iH:cl.callee= .builtin .clear∧cl.args= #[.tmp tv]∧cl.argTypes= #[T2])
  (aU:(r6 tp n&&r6 tv n)=true)(cM:look tp bp=none∧look tv bp=none)(vU:fS L T f=some off)(XX:L T2=some LW)(Ef:LW.k= .slice e2)(Lw:LW.size=1)(he2:L e2=some te)
  (hl:te.zero.length=row.length)(hz: ∀(q:Nat) (S:Value→Prop) (z u:Value),row[q]? =some S→te.zero[q]? =some z→S u→zk u=z)
  (hb:look tb bp=some (.pointer (some ⟨B,0,none⟩)))(hw:w.heap[B]? =some (.cells ys.toArray e (0,0)))(hy:ys[off]? =some v)(hv:oN E r row v)(hR:xF row)(hf:lU n a bp)(h:fA E r w0 w)
  (k: ∀a' w',lU n a' bp→fA E r w0 w'→Lk E w w'→R a' w'):
  (Code.region id #[o1,o2,o3] false).wpIn (WF none) 0 P (NE R) a w:=by
 simp only[Bool.and_eq_true]at aU
 refine Xa ?_
 refine Oe hL hf h1.1 h1.2.1 h1.2.2 aU.1 hb vU fun a1 f1=>?_
 rw[Nat.zero_add]at f1
 refine Od hL f1 (y:=v) h2.1 h2.2.1 h2.2.2 aU.2 XX (by unfold TI.agg;rw[Ef]) Lw (bI _ _ _) (by unfold aR;rw[hw];simpa using hy) fun a2 f2=>?_
 refine Xe hL h hW hr f2 h3.1 iH.1 iH.2.1 iH.2.2 h3.2.1 h3.2.2 (bI _ _ _) hv hR XX Ef he2 hl hz fun w' g1 g2=>?_
 refine wpListIn_nil ⟨rfl,k a2 w' (f2.sub fun d x hd=>?_) g1 g2⟩
 rw[aF,if_neg (fun hh=>by subst hh;rw[cM.2]at hd;cases hd),aF,if_neg (fun hh=>by subst hh;rw[cM.1]at hd;cases hd)];exact hd
def isI(v:Value):Prop:= ∃m,v= .int .i64 m
def isS(v:Value):Prop:= ∃s,v= .string s
def Lf:List (Value→Prop):=[isI]
def H5(E:Env)(r:Nat):List (Value→Prop):=[isI,isS,isI,oN E r Lf]
def FK(E:Env)(r:Nat):List (Value→Prop):=[isS,isI,oN E r (H5 E r),isI]
def yx(E:Env)(r:Nat):List (Value→Prop):=[isS,isI,oN E r (FK E r)]
theorem LA{u:Value}(h:isI u):zk u= .int .i64 0:=by obtain⟨m,rfl⟩:=h;rfl
theorem VM{u:Value}(h:isS u):zk u= .string ⟨#[]⟩:=by obtain⟨m,rfl⟩:=h;rfl
def K9(S:Value→Prop):Prop:=(∀u,S u→S (zk u))∧ ∀u,S u→rR u=true
theorem EG:K9 isI:=⟨fun u h=>⟨0,LA h⟩,fun u h=>by obtain⟨m,rfl⟩:=h;rfl⟩
theorem IN:K9 isS:=⟨fun u h=>⟨_,VM h⟩,fun u h=>by obtain⟨m,rfl⟩:=h;rfl⟩
theorem IP{row:List (Value→Prop)}:K9 (oN E r row):=⟨fun u h=>by rw[h.zk];exact .nil,fun u h=>by obtain⟨A,m,c,rfl,_⟩:=h;rfl⟩
theorem Oa{row:List (Value→Prop)}(h: ∀S∈row,K9 S)(h0:0<row.length):xF row:=⟨fun S hS=>(h S hS).1,fun S hS=>(h S hS).2,h0⟩
theorem ZB:xF Lf:=Oa (by simp[Lf,EG]) (by decide)
theorem Tp:xF (H5 E r):=Oa (by simp[H5,EG,IN,IP]) (by simp[H5])
theorem U3:xF (FK E r):=Oa (by simp[FK,EG,IN,IP]) (by simp[FK])
theorem U7:xF (yx E r):=Oa (by simp[yx,EG,IN,IP]) (by simp[yx])
noncomputable def c25:Code:=Go.Proofs.Tryz.f25.body.get (by kernel_rfl)
def aaX(r:Nat)(a:AV):Prop:= ∃xs,a= .sl r xs∧ ∀l∈xs,∃m,l=[.v (.int .i64 m)]
def aiy(r:Nat)(a:AV):Prop:= ∃xs,a= .sl r xs∧ ∀l∈xs,∃k nm m g,l=[.v (.int .i64 k),.v (.string nm),.v (.int .i64 m),g]∧aaX r g
def akW(r:Nat)(a:AV):Prop:= ∃xs,a= .sl r xs∧ ∀l∈xs,∃nm k g m,l=[.v (.string nm),.v (.int .i64 k),g,.v (.int .i64 m)]∧aiy r g
def akY(r:Nat)(a:AV):Prop:= ∃xs,a= .sl r xs∧ ∀l∈xs,∃nm k g,l=[.v (.string nm),.v (.int .i64 k),g]∧akW r g
def O7(a:AV):Prop:= ∃r xs,a= .agg [.sl r xs]∧akY r (.sl r xs)
theorem ZC{v:Value}{a:AV}(ha:aaX r a)(h:Cz E a v):oN E r Lf v:=by
 obtain⟨xs,rfl,hx⟩:=ha
 refine W3 h (fun l hl=>by obtain⟨m,rfl⟩:=hx l hl;rfl) fun l hl q a S hq hS x hc=>?_
 obtain⟨m,rfl⟩:=hx l hl
 match q,hq,hS with
 |0,hq,hS=>cases hq;cases hS;exact⟨m,bG hc⟩
theorem aea{v:Value}{a:AV}(ha:aiy r a)(h:Cz E a v):oN E r (H5 E r) v:=by
 obtain⟨xs,rfl,hx⟩:=ha
 refine W3 h (fun l hl=>by obtain⟨_,_,_,_,rfl,_⟩:=hx l hl;rfl) fun l hl q a S hq hS x hc=>?_
 obtain⟨k,nm,m,g,rfl,hg⟩:=hx l hl
 match q,hq,hS with
 |0,hq,hS=>cases hq;cases hS;exact⟨_,bG hc⟩
 |1,hq,hS=>cases hq;cases hS;exact⟨_,bG hc⟩
 |2,hq,hS=>cases hq;cases hS;exact⟨_,bG hc⟩
 |3,hq,hS=>cases hq;cases hS;exact ZC hg hc
theorem agB{v:Value}{a:AV}(ha:akW r a)(h:Cz E a v):oN E r (FK E r) v:=by
 obtain⟨xs,rfl,hx⟩:=ha
 refine W3 h (fun l hl=>by obtain⟨_,_,_,_,rfl,_⟩:=hx l hl;rfl) fun l hl q a S hq hS x hc=>?_
 obtain⟨nm,k,g,m,rfl,hg⟩:=hx l hl
 match q,hq,hS with
 |0,hq,hS=>cases hq;cases hS;exact⟨_,bG hc⟩
 |1,hq,hS=>cases hq;cases hS;exact⟨_,bG hc⟩
 |2,hq,hS=>cases hq;cases hS;exact aea hg hc
 |3,hq,hS=>cases hq;cases hS;exact⟨_,bG hc⟩
theorem agC{v:Value}{a:AV}(ha:akY r a)(h:Cz E a v):oN E r (yx E r) v:=by
 obtain⟨xs,rfl,hx⟩:=ha
 refine W3 h (fun l hl=>by obtain⟨_,_,_,rfl,_⟩:=hx l hl;rfl) fun l hl q a S hq hS x hc=>?_
 obtain⟨nm,k,g,rfl,hg⟩:=hx l hl
 match q,hq,hS with
 |0,hq,hS=>cases hq;cases hS;exact⟨_,bG hc⟩
 |1,hq,hS=>cases hq;cases hS;exact⟨_,bG hc⟩
 |2,hq,hS=>cases hq;cases hS;exact agB hg hc
theorem ahr{row:List (Value→Prop)}{zs:List Value}(h: ∀(q:Nat) (S:Value→Prop) (z:Value),row[q]? =some S→zs[q]? =some z→ ∀u,S u→zk u=z): ∀(q:Nat) (S:Value→Prop) (z u:Value),row[q]? =some S→zs[q]? =some z→S u→zk u=z:=
 fun q S z u h1 h2 h3=>h q S z h1 h2 u h3
def Bx(E:Env)(w:World)(B e:Nat)(row:List (Value→Prop)):Prop:=E.h.size≤B∧ ∃ys:List Value,w.heap[B]? =some (.cells ys.toArray e (0,0))∧ys.length=row.length∧ ∀(q:Nat) (S:Value→Prop) (y:Value),row[q]? =some S→ys[q]? =some y→S y
theorem Bx.mono{B e:Nat}(h:Bx E w B e row)(k:Lk E w w'):Bx E w' B e row:=by
 obtain⟨h1,ys,h2,h3⟩:=h
 exact⟨h1,ys,k.get h1 h2,h3⟩
theorem UL(hw:Wf E){id T e ts ti tp tv tb:Nat}{o1 o2 o3 o4:Oper}{A:Option Addr}{m c i:Nat}{te:TI}{y:Code}{wb:World}
  (h1:o1.op= .indexAddr T (.tmp ts) (.tmp ti)∧o1.guard=none∧o1.dst=some tp)(h2:o2.op= .load e (.tmp tp)∧o2.guard=none∧o2.dst=some tv)(h3:o3.op= .alloc e∧o3.guard=none∧o3.dst=some tb)(h4:o4.op= .store e (.tmp tb) (.tmp tv)∧o4.guard=none∧o4.dst=none)
  (aU:(r6 tp 40&&(r6 tv 40&&r6 tb 40))=true)(cM:tp≠tv∧tv≠tb∧look tp bp=none∧look tv bp=none∧tp≠tb)(VC:look tb bp=none)(sn:elemOf Ab.L T=some (e,te))(he:Ab.L e=some te)(sW:te.agg=true)(du:te.size=row.length)
  (hs:look ts bp=some (.slice A m c))(hi:look ti bp=some (.int .i64 i))(lV:i<m)(hv:oN E r row (.slice A m c))(hR:xF row)(hf:lU 40 a bp)(h:fA E r w0 w∧Lk E wb w)
  (k: ∀a1 w1 B,Bx E w1 B e row→lU 40 a1 (cR tb (.pointer (some ⟨B,0,none⟩)) bp)→fA E r w0 w1→y.wpIn (WF none) 0 PP (NE fun a' w'=>lU 40 a' (cR tb (.pointer (some ⟨B,0,none⟩)) bp)∧fA E r w0 w'∧Lk E w1 w') a1 w1):
  (Code.seq (.region id #[o1,o2,o3,o4] false) y).wpIn (WF none) 0 PP (NE fun a' w'=>lU 40 a' bp∧fA E r w0 w'∧Lk E wb w') a w:=by
 refine PG (R1:=fun a' w'=> ∃B,Bx E w' B e row∧lU 40 a' (cR tb (.pointer (some ⟨B,0,none⟩)) bp)∧fA E r w0 w'∧Lk E wb w') ?_ ?_
 ·exact akp lay hw h1 h2 h3 h4 aU cM sn he sW du hs hi lV hv hR hf h.1 fun a' w' B ys e1 e2 e3 e4 e5 e6 e7=>⟨B,⟨e1,ys,e2,e3,e4⟩,e5,e6,h.2.trans e7⟩
 ·rintro a1 w1 ⟨B,e1,e2,e3,e4⟩
  refine wpIn_mono (k a1 w1 B e1 e2 e3) fun e a2 w2 hq=>?_
  obtain⟨rfl,f1,f2,f3⟩:=hq
  exact⟨rfl,pQ f1 VC,f2,e4.trans f3⟩
theorem IL(hw:Wf E)(hr:1000000≤r){id T f tb tp tv B off e T2 e2:Nat}{LW te:TI}{o1 o2 o3:Oper}{cl:Call}{wb:World}{row2:List (Value→Prop)}
  (h1:o1.op= .fieldAddr T (.tmp tb) f∧o1.guard=none∧o1.dst=some tp)(h2:o2.op= .load T2 (.tmp tp)∧o2.guard=none∧o2.dst=some tv)(h3:o3.op= .call cl∧o3.guard=none∧o3.dst=none)(iH:cl.callee= .builtin .clear∧cl.args= #[.tmp tv]∧cl.argTypes= #[T2])
  (aU:(r6 tp 40&&r6 tv 40)=true)(cM:look tp bp=none∧look tv bp=none)(vU:fS Ab.L T f=some off)(XX:Ab.L T2=some LW)(Ef:LW.k= .slice e2)(Lw:LW.size=1)(he2:Ab.L e2=some te)
  (hl:te.zero.length=row2.length)(hz: ∀(q:Nat) (S:Value→Prop) (z:Value),row2[q]? =some S→te.zero[q]? =some z→ ∀u,S u→zk u=z)
  (hb:look tb bp=some (.pointer (some ⟨B,0,none⟩)))(hB:Bx E w B e row)(hS:row[off]? =some (oN E r row2))(hR:xF row2)(hf:lU 40 a bp)(h:fA E r w0 w∧Lk E wb w):
  (Code.region id #[o1,o2,o3] false).wpIn (WF none) 0 PP (NE fun a' w'=>lU 40 a' bp∧fA E r w0 w'∧Lk E wb w') a w:=by
 obtain⟨e1,ys,e2,e3,e4⟩:=hB
 have Nk:off<ys.length:=by rw[e3];exact(List.getElem?_eq_some_iff.1 hS).1
 have hy:ys[off]? =some ys[off]:=List.getElem?_eq_getElem Nk
 exact KW lay hw hr h1 h2 h3 iH aU cM vU XX Ef Lw he2 hl (ahr hz) hb e2 hy (e4 off _ _ hS hy) hR hf h.1 fun a' w' f1 f2 f3=>⟨f1,f2,h.2.trans f3⟩
theorem Rm{id T f tb tp tv tn ti tc tx B off e T2 e2 k k1 g1 g2:Nat}{LW:TI}{o1 o2 o3 o4 q1 q2 q3:Oper}{cl:Call}{wb:World}{row2:List (Value→Prop)}{body:Code}
  (h1:o1.op= .fieldAddr T (.tmp tb) f∧o1.guard=none∧o1.dst=some tp)(h2:o2.op= .load T2 (.tmp tp)∧o2.guard=none∧o2.dst=some tv)(h3:o3.op= .call cl∧o3.guard=none∧o3.dst=some tn)(iH:cl.callee= .builtin .len∧cl.args= #[.tmp tv]∧cl.argTypes= #[T2])
  (h4:o4.op= .move (.const (.int .i64 0))∧o4.guard=none∧o4.dst=some ti)
  (j1:q1.op= .binOp .lss 3 (.tmp ti) (.tmp tn) 3∧q1.guard=none∧q1.dst=some tc)(j2:q2.op= .binOp .add 3 (.tmp ti) (.const (.int .i64 1)) 3∧q2.guard=none∧q2.dst=some tx)(j3:q3.op= .move (.tmp tx)∧q3.guard=none∧q3.dst=some ti)
  (aU:(r6 tp 40&&(r6 tv 40&&(r6 tn 40&&r6 ti 40))&&(r6 ti 40&&(r6 tc 40&&r6 tx 40)))=true)
  (cM:(tp≠tv∧tp≠tn∧tp≠ti∧tv≠tn∧tv≠ti∧tn≠ti)∧look tp bp=none∧look tv bp=none∧look tn bp=none)(ae3:(ti≠tc∧ti≠tx∧ti≠tn∧tv≠tc∧tv≠tx∧tn≠tc∧tn≠tx)∧look ti bp=none∧look tc bp=none∧look tx bp=none)
  (vU:fS Ab.L T f=some off)(XX:Ab.L T2=some LW)(Ef:LW.k= .slice e2)(Lw:LW.size=1)
  (hb:look tb bp=some (.pointer (some ⟨B,0,none⟩)))(hB:Bx E w B e row)(hS:row[off]? =some (oN E r row2))(hf:lU 40 a bp)(h:fA E r w0 w∧Lk E wb w)
  (aj3: ∀A m c i a1 w1,i<m→oN E r row2 (.slice A m c)→lU 40 a1 (cR ti (.int .i64 i) (cR tn (.int .i64 m) (cR tv (.slice A m c) bp)))→fA E r w0 w1∧Lk E wb w1→
   body.wpIn (WF none) 0 PP (NE fun a' w'=>lU 40 a' (cR ti (.int .i64 i) (cR tn (.int .i64 m) (cR tv (.slice A m c) bp)))∧fA E r w0 w'∧Lk E wb w') a1 w1):
  (Code.seq (.region id #[o1,o2,o3,o4] false) (Code.block k (Code.loop ((Code.region g1 #[q1] false).seq ((Code.cond (.tmp tc) .skip (.exit k)).seq ((Code.block k1 body).seq (Code.region g2 #[q2,q3] false))))))).wpIn (WF none) 0 PP (NE fun a' w'=>lU 40 a' bp∧fA E r w0 w'∧Lk E wb w') a w:=by
 obtain⟨e1,ys,e2,e3,e4⟩:=hB
 have Nk:off<ys.length:=by rw[e3];exact(List.getElem?_eq_some_iff.1 hS).1
 have hy:ys[off]? =some ys[off]:=List.getElem?_eq_getElem Nk
 have Nh:=e4 off _ _ hS hy
 generalize ys[off]=v at hy Nh
 have aoP:=Nh
 obtain⟨A,m,c,rfl,hm,_⟩:=Nh
 rw[Bool.and_eq_true]at aU
 obtain⟨⟨m1,m2,m3,m4,m5,m6⟩,m7,m8,m9⟩:=cM
 obtain⟨⟨n1,n2,n3,n4,n5,n6,n7⟩,n8,n9,Kh⟩:=ae3
 have up: ∀{d:Nat},tv≠d→tn≠d→look d bp=none→look d (cR tn (Value.int .i64 m) (cR tv (.slice A m c) bp))=none:=fun ha hb hc=>by rw[aF,if_neg hb,aF,if_neg ha];exact hc
 refine PG (R1:=fun a' w'=>w'=w∧lU 40 a' (cR ti (.int .i64 0) (cR tn (.int .i64 m) (cR tv (.slice A m c) bp)))) ?_ ?_
 ·exact Qq lay h1 h2 h3 iH h4 aU.1 ⟨m1,m2,m3,m4,m5,m6,m7,m8,m9⟩ vU XX Ef Lw hb e2 hy hf fun a' f=>⟨rfl,f⟩
 ·rintro a1 w1 ⟨rfl,f⟩
  refine wpIn_mono (aiR (J:=fun w'=>fA E r w0 w'∧Lk E wb w') j1 j2 j3 aU.2 (bI _ _ _) hm ⟨up m5 m6 n8,up n4 n6 n9,up n5 n7 Kh,n1,n2,n3⟩ f h fun i a w hi hf hJ=>?_) fun e a2 w2 hq=>?_
  ·exact aj3 A m c i a w hi aoP hf hJ
  ·obtain⟨rfl,f1,f2⟩:=hq
   exact⟨rfl,pQ (pQ f1 (by rw[aF,if_neg m4];exact m9)) m8,f2⟩
theorem bls_k: ∀S∈yx E r,K9 S:=by simp[yx,EG,IN,IP]
theorem Qx{f:Nat}{fn:Func}{c:Code}(hf:PP.funcs[f]? =some fn)(hb:fn.body=some c)(hn:fn.ntmps=n)(hr:fn.results= #[]){vs:Array Value}{J:World→Prop}
  (h:c.wpIn (WF none) 0 PP (NE fun a' w'=>lU n a' []∧J w') {tmps:=vs++Array.replicate (n - vs.size) undef,defers:=[]} w):Calls PP f vs w fun e w'=>e= .returned (.tuple #[])∧J w':=by
 subst hn
 refine(callsIn_wide (n:=0)).1 (callsIn_of_wp_marks (F:=Fence.wide) hf hb trivial ?_ rfl)
 refine wpIn_mono (F:=Fence.wide) h fun e a' w' hq=>?_
 obtain⟨rfl,⟨_,f0,_⟩,f2⟩:=hq
 show LeavesInM _ _ _ _ _ _ a'.defers _ _
 rw[f0]
 refine⟨.tuple #[],?_,rfl,f2⟩
 simp[results,hr,go_sem]
theorem aqa:nP PP 25:=enters Go.Proofs.Tryz.func25 (c:=c25) (by kernel_rfl) (by kernel_rfl)
theorem bg{α:Type}(d:Nat):look d ([]:List (Nat×α))=none:=rfl
theorem Py:Li PP 25 O7:=by
 intro E w r xs x hQ hr hh hw hx
 obtain⟨r',xs',hq1,hq2⟩:=hQ
 cases hq1
 obtain⟨v,rfl,hv⟩: ∃v,x= .agg #[v]∧oN E r (yx E r) v:=by
  cases hx with
  |agg _ ys hl hq=>
   match ys,hl with
   |[v],_=>exact⟨v,rfl,agC hq2 (hq 0 _ v rfl rfl)⟩
 have start:lU 40 {tmps:= #[Value.agg #[v]]++Array.replicate (40 - (#[Value.agg #[v]]:Array Value).size) undef,defers:=[]} [(0,.agg #[v])]:=by
  refine⟨by simp,by trivial,fun d x hd=>?_⟩
  rw[aB]at hd
  by_cases h0:0=d
  ·subst h0;rw[if_pos rfl]at hd;cases hd;simp[Array.getD_eq_getD_getElem?]
  ·rw[if_neg h0]at hd;cases hd
 have ON: ∀{e:Ending} {w':World},(e= .returned (.tuple #[])∧fA E r w w')→e= .returned (.tuple #[])∧kj E r w w':=fun hq=>⟨hq.1,hq.2.spoilt⟩
 refine(Qx (n:=40) (J:=fun w'=>fA E r w w') Go.Proofs.Tryz.func25 (c:=c25) (by kernel_rfl) rfl rfl ?_).mono fun e w'=>ON
 refine PG (R1:=fun a' w'=> ∃B,Bx E w' B 24 [oN E r (yx E r)]∧lU 40 a' [(1,.pointer (some ⟨B,0,none⟩))]∧fA E r w w') ?_ ?_
 ·refine Xa ?_
  refine ahY start (v:= .agg #[v]) (d:=1) (x:=0) rfl rfl rfl rfl rfl fun a1 f1=>?_
  refine wpListIn_nil ⟨rfl,w.heap.size,⟨by rw[hh];exact Nat.le_refl _,[v],?_,rfl,fun q S y h1 h2=>?_⟩,f1.sub fun d x hd=>?_,(fA.refl hh).alloc _⟩
  ·rw[GN];simp[Value.cells]
  ·match q,h1,h2 with
   |0,h1,h2=>cases h1;cases h2;exact hv
  ·rw[aF]
   rw[aB]at hd
   by_cases h0:1=d
   ·rw[if_pos h0]at hd ⊢;exact hd
   ·rw[if_neg h0]at hd;cases hd
 rintro a1 w1 ⟨B0,hB0,f1,hI1⟩
 refine wpIn_mono (Q:=NE fun a' w'=>lU 40 a' [(1,.pointer (some ⟨B0,0,none⟩))]∧fA E r w w'∧Lk E w1 w') ?_ ?_
 case refine_2=>intro e a' w' hq;exact⟨hq.1,hq.2.1.sub fun d x hd=>(by cases hd),hq.2.2.1⟩
 refine PG (R1:=fun a' w'=>lU 40 a' [(1,.pointer (some ⟨B0,0,none⟩))]∧fA E r w w'∧Lk E w1 w') ?_ fun a2 w2 Qh=>?_
 rotate_left
 ·exact IL hw hr (row:=[oN E r (yx E r)]) (row2:=yx E r) ⟨rfl,rfl,rfl⟩ ⟨rfl,rfl,rfl⟩ ⟨rfl,rfl,rfl⟩ ⟨rfl,rfl,rfl⟩ rfl ⟨by simp[aF,aB,bg],by simp[aF,aB,bg]⟩ rfl rfl rfl rfl rfl rfl (fun q S z h1 h2 u hu=>by
   match q,h1,h2 with
   |0,h1,h2=>cases h1;cases h2;exact VM hu
   |1,h1,h2=>cases h1;cases h2;exact LA hu
   |2,h1,h2=>cases h1;cases h2;exact hu.zk) (by rfl) (hB0.mono Qh.2.2) rfl U7 Qh.1 Qh.2
 refine Rm (row:=[oN E r (yx E r)]) (row2:=yx E r) ⟨rfl,rfl,rfl⟩ ⟨rfl,rfl,rfl⟩ ⟨rfl,rfl,rfl⟩ ⟨rfl,rfl,rfl⟩ ⟨rfl,rfl,rfl⟩ ⟨rfl,rfl,rfl⟩ ⟨rfl,rfl,rfl⟩ ⟨rfl,rfl,rfl⟩ rfl (by refine⟨by decide,?_,?_,?_⟩<;>simp[aF,aB,bg]) (by refine⟨by decide,?_,?_,?_⟩<;>simp[aF,aB,bg]) rfl rfl rfl rfl (by rfl) hB0 rfl f1 ⟨hI1,.refl⟩ fun A m c i a3 w3 hi Nh f3 hJ3=>?_
 refine UL hw (row:=yx E r) ⟨rfl,rfl,rfl⟩ ⟨rfl,rfl,rfl⟩ ⟨rfl,rfl,rfl⟩ ⟨rfl,rfl,rfl⟩ rfl (by refine⟨by decide,by decide,?_,?_,by decide⟩<;>simp[aF,aB,bg]) (by simp[aF,aB,bg]) rfl rfl rfl rfl (by simp[aF,aB,bg]) (by simp[aF,aB,bg]) hi Nh U7 f3 hJ3 fun a4 w4 B1 hB1 f4 hI4=>?_
 refine PG (R1:=fun a' w'=>lU 40 a' (cR 3 (.pointer (some ⟨B1,0,none⟩)) (cR 11 (.int .i64 i) (cR 10 (.int .i64 m) (cR 9 (.slice A m c) [(1,.pointer (some ⟨B0,0,none⟩))]))))∧fA E r w w'∧Lk E w4 w') ?_ fun a5 w5 hq5=>?_
 rotate_left
 ·exact IL hw hr (row:=yx E r) (row2:=FK E r) ⟨rfl,rfl,rfl⟩ ⟨rfl,rfl,rfl⟩ ⟨rfl,rfl,rfl⟩ ⟨rfl,rfl,rfl⟩ rfl ⟨by simp[aF,aB,bg],by simp[aF,aB,bg]⟩ rfl rfl rfl rfl rfl rfl (fun q S z h1 h2 u hu=>by
   match q,h1,h2 with
   |0,h1,h2=>cases h1;cases h2;exact VM hu
   |1,h1,h2=>cases h1;cases h2;exact LA hu
   |2,h1,h2=>cases h1;cases h2;exact hu.zk
   |3,h1,h2=>cases h1;cases h2;exact LA hu) (by simp[aF,aB,bg]) (hB1.mono hq5.2.2) rfl U3 hq5.1 hq5.2
 refine Rm (row:=yx E r) (row2:=FK E r) ⟨rfl,rfl,rfl⟩ ⟨rfl,rfl,rfl⟩ ⟨rfl,rfl,rfl⟩ ⟨rfl,rfl,rfl⟩ ⟨rfl,rfl,rfl⟩ ⟨rfl,rfl,rfl⟩ ⟨rfl,rfl,rfl⟩ ⟨rfl,rfl,rfl⟩ rfl (by refine⟨by decide,?_,?_,?_⟩<;>simp[aF,aB,bg]) (by refine⟨by decide,?_,?_,?_⟩<;>simp[aF,aB,bg]) rfl rfl rfl rfl (by simp[aF,aB,bg]) hB1 rfl f4 ⟨hI4,.refl⟩ fun A1 m1 c1 i1 a6 w6 hi1 aoO f6 hJ6=>?_
 refine UL hw (row:=FK E r) ⟨rfl,rfl,rfl⟩ ⟨rfl,rfl,rfl⟩ ⟨rfl,rfl,rfl⟩ ⟨rfl,rfl,rfl⟩ rfl (by refine⟨by decide,by decide,?_,?_,by decide⟩<;>simp[aF,aB,bg]) (by simp[aF,aB,bg]) rfl rfl rfl rfl (by simp[aF,aB,bg]) (by simp[aF,aB,bg]) hi1 aoO U3 f6 hJ6 fun a7 w7 B2 hB2 f7 hI7=>?_
 refine PG (R1:=fun a' w'=>lU 40 a' (cR 5 (.pointer (some ⟨B2,0,none⟩)) (cR 18 (.int .i64 i1) (cR 17 (.int .i64 m1) (cR 16 (.slice A1 m1 c1) (cR 3 (.pointer (some ⟨B1,0,none⟩)) (cR 11 (.int .i64 i) (cR 10 (.int .i64 m) (cR 9 (.slice A m c) [(1,.pointer (some ⟨B0,0,none⟩))]))))))))∧fA E r w w'∧Lk E w7 w') ?_ fun a8 w8 hq8=>?_
 rotate_left
 ·exact IL hw hr (row:=FK E r) (row2:=H5 E r) ⟨rfl,rfl,rfl⟩ ⟨rfl,rfl,rfl⟩ ⟨rfl,rfl,rfl⟩ ⟨rfl,rfl,rfl⟩ rfl ⟨by simp[aF,aB,bg],by simp[aF,aB,bg]⟩ rfl rfl rfl rfl rfl rfl (fun q S z h1 h2 u hu=>by
   match q,h1,h2 with
   |0,h1,h2=>cases h1;cases h2;exact LA hu
   |1,h1,h2=>cases h1;cases h2;exact VM hu
   |2,h1,h2=>cases h1;cases h2;exact LA hu
   |3,h1,h2=>cases h1;cases h2;exact hu.zk) (by simp[aF,aB,bg]) (hB2.mono hq8.2.2) rfl Tp hq8.1 hq8.2
 refine Rm (row:=FK E r) (row2:=H5 E r) ⟨rfl,rfl,rfl⟩ ⟨rfl,rfl,rfl⟩ ⟨rfl,rfl,rfl⟩ ⟨rfl,rfl,rfl⟩ ⟨rfl,rfl,rfl⟩ ⟨rfl,rfl,rfl⟩ ⟨rfl,rfl,rfl⟩ ⟨rfl,rfl,rfl⟩ rfl (by refine⟨by decide,?_,?_,?_⟩<;>simp[aF,aB,bg]) (by refine⟨by decide,?_,?_,?_⟩<;>simp[aF,aB,bg]) rfl rfl rfl rfl (by simp[aF,aB,bg]) hB2 rfl f7 ⟨hI7,.refl⟩ fun A2 m2 c2 i2 a9 w9 hi2 aoN f9 hJ9=>?_
 refine UL hw (row:=H5 E r) ⟨rfl,rfl,rfl⟩ ⟨rfl,rfl,rfl⟩ ⟨rfl,rfl,rfl⟩ ⟨rfl,rfl,rfl⟩ rfl (by refine⟨by decide,by decide,?_,?_,by decide⟩<;>simp[aF,aB,bg]) (by simp[aF,aB,bg]) rfl rfl rfl rfl (by simp[aF,aB,bg]) (by simp[aF,aB,bg]) hi2 aoN Tp f9 hJ9 fun a10 w10 B3 hB3 f10 apI=>?_
 exact IL hw hr (row:=H5 E r) (row2:=Lf) ⟨rfl,rfl,rfl⟩ ⟨rfl,rfl,rfl⟩ ⟨rfl,rfl,rfl⟩ ⟨rfl,rfl,rfl⟩ rfl ⟨by simp[aF,aB,bg],by simp[aF,aB,bg]⟩ rfl rfl rfl rfl rfl rfl (fun q S z h1 h2 u hu=>by
  match q,h1,h2 with
  |0,h1,h2=>cases h1;cases h2;exact LA hu) (by simp[aF,aB,bg]) hB3 rfl ZB f10 ⟨apI,.refl⟩
end Ab
namespace Ab
open Go
def vR(P:Program)(t:Nat)(k:VK):Bool:=match P.underlying t,k with
 |some (.int q),.int q'=>q==q'
 |some .string,.str=>true
 |some .bool,.bool=>true
 |_,_=>false
def Q1(P:Program):List Field→List VK→Nat→Bool
 |[],[],_=>true
 |f::fs,k::ks,off=>(f.name != "_")&&(cS f.offset off&&(vR P f.type k&&Q1 P fs ks (off+1)))
 |_,_,_=>false
section
variable{P:Program}
theorem qx{t:Nat}{k:VK}(h:vR P t k=true):P.plainKey t=true:=by
 unfold vR at h
 unfold Program.plainKey
 split at h<;>first|(cases h;done)|(rename_i hu;rw[hu])
theorem OZ{t:Nat}{k:VK}(h:vR P t k=true)(d:Nat){a b:Value}{r:List VK}{q q':List Value}(ha:bz (k::r) (a::q)=true)(hb:bz (k::r) (b::q')=true): ∃x:Bool,(x=true↔a=b)∧ ∀w,(Op.equalIn (d+1) t a b).run P w= .ok x w:=by
 unfold vR at h
 split at h
 ·rename_i qk q0 hu
  have:qk=q0:=by simpa using h
  subst this
  cases a<;>simp[bz]at ha
  cases b<;>simp[bz]at hb
  rename_i k1 n1 k2 n2
  obtain⟨rfl,_⟩:=ha
  obtain⟨rfl,_⟩:=hb
  exact⟨n1==n2,by simp,fun w=>run_equalIn_int w d t _ _ n1 n2 hu⟩
 ·rename_i hu
  cases a<;>simp[bz]at ha
  cases b<;>simp[bz]at hb
  rename_i s1 s2
  refine⟨s1.toList==s2.toList,?_,fun w=>run_equalIn_string w d t s1 s2 hu⟩
  rw[←beq_toListBytes]
  obtain⟨⟨x⟩⟩:=s1
  obtain⟨⟨y⟩⟩:=s2
  show((⟨x⟩:Array UInt8)==⟨y⟩)=true↔_
  simp
 ·rename_i hu
  cases a<;>simp[bz]at ha
  cases b<;>simp[bz]at hb
  rename_i s1 s2
  exact⟨s1==s2,by simp,fun w=>run_equalIn_bool w d t s1 s2 hu⟩
 ·cases h
theorem pS{k:VK}{r:List VK}{a:Value}{q:List Value}(h:bz (k::r) (a::q)=true):bz r q=true:=by
 cases k<;>cases a<;>simp_all [bz]
theorem vl(d:Nat)(xs ys:Array Value): ∀(fs:List Field) (ks:List VK) (off:Nat) (xr yr:List Value),Q1 P fs ks off=true→bz ks xr=true→bz ks yr=true→
  (∀j v,xr[j]? =some v→xs[off+j]? =some v)→(∀j v,yr[j]? =some v→ys[off+j]? =some v)→ ∃b:Bool,(b=true↔xr=yr)∧ ∀w,(Op.eqFields (d+1) xs ys fs).run P w= .ok b w
 |[],[],off,[],[],_,_,_,_,_=>⟨true,by simp,fun w=>by simp[Op.eqFields]⟩
 |f::fs,k::ks,off,a::xr,b::yr,h,hx,hy,gx,gy=>by
  simp only[Q1,Bool.and_eq_true,bne_iff_ne,ne_eq]at h
  obtain⟨h1,h2,h3,h4⟩:=h
  have h2:=dg h2
  obtain⟨r,hr1,VB⟩:=OZ h3 d hx hy
  obtain⟨r',hr3,hr4⟩:=vl d xs ys fs ks (off+1) xr yr h4 (pS hx) (pS hy) (fun j v hj=>by have:=gx (j+1) v (by simpa using hj);rwa [show off+1+j=off+(j+1)by omega]) (fun j v hj=>by have:=gy (j+1) v (by simpa using hj);rwa [show off+1+j=off+(j+1)by omega])
  have p1: ∀w,(Go.part f.type xs f.offset).run P w= .ok a w:=fun w=>run_part_plain w (qx h3) (by rw[h2];exact gx 0 a rfl)
  have p2: ∀w,(Go.part f.type ys f.offset).run P w= .ok b w:=fun w=>run_part_plain w (qx h3) (by rw[h2];exact gy 0 b rfl)
  cases r with
  |false=>
   refine⟨false,?_,fun w=>by simp[Op.eqFields,h1,Sem.run_bind,p1,p2,VB,Result.andThen]⟩
   constructor
   ·intro h;cases h
   ·intro h;injection h with e1 _;exact absurd (hr1.2 e1) (by simp)
  |true=>
   refine⟨r',?_,fun w=>by simp[Op.eqFields,h1,Sem.run_bind,p1,p2,VB,hr4,Result.andThen]⟩
   rw[hr3,hr1.1 rfl]
   simp
 |[],_::_,_,_,_,h,_,_,_,_=>by simp[Q1]at h
 |_::_,[],_,_,_,h,_,_,_,_=>by simp[Q1]at h
 |_::_,k::_,_,[],_,_,hx,_,_,_=>by cases k<;>simp[bz]at hx
 |_::_,k::_,_,_::_,[],_,_,hy,_,_=>by cases k<;>simp[bz]at hy
 |[],[],_,_::_,_,_,hx,_,_,_=>by simp[bz]at hx
 |[],[],_,[],_::_,_,_,hy,_,_=>by simp[bz]at hy
theorem xw(d:Nat){e:Nat}{k:VK}(hk:vR P e k=true)(hc:P.cellsOf e=1)(xs ys:Array Value): ∀(n off:Nat) (xr yr:List Value),bz (List.replicate n k) xr=true→bz (List.replicate n k) yr=true→
  (∀j v,xr[j]? =some v→xs[off+j]? =some v)→(∀j v,yr[j]? =some v→ys[off+j]? =some v)→ ∃b:Bool,(b=true↔xr=yr)∧ ∀w,(Op.eqItems (d+1) e 1 xs ys (List.range' off n)).run P w= .ok b w
 |0,off,[],[],_,_,_,_=>⟨true,by simp,fun w=>by simp[Op.eqItems]⟩
 |n+1,off,a::xr,b::yr,hx,hy,gx,gy=>by
  rw[List.replicate_succ]at hx hy
  obtain⟨r,hr1,VB⟩:=OZ hk d hx hy
  obtain⟨r',hr3,hr4⟩:=xw d hk hc xs ys n (off+1) xr yr (pS hx) (pS hy) (fun j v hj=>by have:=gx (j+1) v (by simpa using hj);rwa [show off+1+j=off+(j+1)by omega]) (fun j v hj=>by have:=gy (j+1) v (by simpa using hj);rwa [show off+1+j=off+(j+1)by omega])
  have p1: ∀w,(Go.part e xs (off*1)).run P w= .ok a w:=fun w=>run_part_plain w (qx hk) (by rw[Nat.mul_one];exact gx 0 a rfl)
  have p2: ∀w,(Go.part e ys (off*1)).run P w= .ok b w:=fun w=>run_part_plain w (qx hk) (by rw[Nat.mul_one];exact gy 0 b rfl)
  rw[List.range'_succ]
  cases r with
  |false=>
   refine⟨false,?_,fun w=>by rw[Op.eqItems];simp only[Sem.run_bind,p1,p2,VB,Result.andThen];simp⟩
   constructor
   ·intro h;cases h
   ·intro h;injection h with e1 _;exact absurd (hr1.2 e1) (by simp)
  |true=>
   refine⟨r',?_,fun w=>by rw[Op.eqItems];simp only[Sem.run_bind,p1,p2,VB,Result.andThen];simpa using hr4 w⟩
   rw[hr3,hr1.1 rfl]
   simp
 |0,_,_::_,_,hx,_,_,_=>by simp[bz]at hx
 |0,_,[],_::_,_,hy,_,_=>by simp[bz]at hy
 |n+1,_,[],_,hx,_,_,_=>by rw[List.replicate_succ]at hx;cases k<;>simp[bz]at hx
 |n+1,_,_::_,[],_,hy,_,_=>by rw[List.replicate_succ]at hy;cases k<;>simp[bz]at hy
theorem Dp{t:Nat}{ks:List VK}(ht:P.underlying t=some (.struct (P.fieldsOf t)))(hp:P.stoodInHeld t=false)(hf:Q1 P (P.fieldsOf t).toList ks 0=true)(hg:P.eqGuardType P.depth t=false):tl P t ks:=
 ⟨(fun xs ys hx hy=>by
  obtain⟨b,h1,h2⟩:=vl (P:=P) 9998 xs.toArray ys.toArray _ ks 0 xs ys hf hx hy (fun j v h=>by simpa using h) (fun j v h=>by simpa using h)
  exact⟨b,h1,fun w=>(run_equalIn_struct w 9999 t _ _ ht hp).trans (h2 w)⟩),hg⟩
theorem GL{t e n:Nat}{k:VK}{i:TypeInfo}(ht:P.underlying t=some (.array n e))(hi:P.info? e=some i)(hk:vR P e k=true)(hc:P.cellsOf e=1)(hg:P.eqGuardType P.depth t=false):tl P t (List.replicate n k):=
 ⟨(fun xs ys hx hy=>by
  obtain⟨b,h1,h2⟩:=xw (P:=P) 9998 hk hc xs.toArray ys.toArray n 0 xs ys hx hy (fun j v h=>by simpa using h) (fun j v h=>by simpa using h)
  refine⟨b,h1,fun w=>?_⟩
  rw[run_equalIn_array w 9999 _ _ ht hi,hc,List.range_eq_range']
  exact h2 w),hg⟩
theorem Dy{ks:List VK}{kv:List Value}(h:bz ks kv=true):Instr.sameBits 10000 (fx kv) (fx kv)=true:=by
 have cell: ∀{ks:List VK} {kv:List Value},bz ks kv=true→ ∀x∈kv,∀n,Instr.sameBits (n+1) x x=true:=by
  intro ks kv h
  induction kv generalizing ks with
  |nil=>intro x hx;cases hx
  |cons y r ih=>
   cases ks with
   |nil=>simp[bz]at h
   |cons k ks=>
    intro x hx n
    rcases List.mem_cons.1 hx with rfl|hx
    ·cases k<;>cases x<;>simp_all [bz,Instr.sameBits]
     all_goals(rw[beq_toListBytes];simp)
    ·exact ih (pS h) x hx n
 have hz: ∀(l:List Value),(∀x∈l,Instr.sameBits 9999 x x=true)→((l.zip l).all fun(x,y)=>Instr.sameBits 9999 x y)=true:=fun l hl=>by
  induction l with
  |nil=>rfl
  |cons a r ih=>simp only[List.zip_cons_cons,List.all_cons,Bool.and_eq_true];exact⟨hl a (by simp),ih fun x hx=>hl x (by simp[hx])⟩
 match kv,h with
 |[x],h=>exact cell h x (by simp) 9999
 |[],_=>rfl
 |x::y::r,h=>
  show Instr.sameBits 10000 (.agg (x::y::r).toArray) (.agg (x::y::r).toArray)=true
  rw[Instr.sameBits]
  simp only[BEq.rfl,Bool.true_and]
  exact hz _ fun z hz=>cell h z hz 9998
theorem XU{t:Nat}{q:IntKind}(hu:P.underlying t=some (.int q)):KeyLaw P t [.int q]:=by
 have nF: ∀kv,bz [.int q] kv=true→ ∃n,kv=[.int q n]:=fun kv h=>by
  match kv,h with
  |[x],h=>cases x<;>simp[bz]at h;exact⟨_,by rw[h]⟩
  |[],h=>simp[bz]at h
  |x::y::r,h=>cases x<;>simp[bz]at h
 refine⟨fun kv h b w=>?_,fun kv es h Eh w=>?_,fun kv h=>Dy h⟩
 ·obtain⟨n,rfl⟩:=nF kv h
  show(Instr.checkKey b (9999+1) t (.int q n)).run P w=_
  rw[Instr.checkKey]
  simp[Sem.run_bind,run_underlying hu,Result.andThen]
 ·obtain⟨n,rfl⟩:=nF kv h
  have ae2: ∀(es:List MapEntry) (i:Nat),(∀e∈es,∃Ae,bz [.int q] Ae=true∧e.key=fx Ae)→Instr.findNow (.int q) (.int q n) es i=some (kf (.int q n) es i):=by
   intro es
   induction es with
   |nil=>intro i _;rfl
   |cons e r ih=>
    intro i Eh
    obtain⟨Ae,h1,h2⟩:=Eh e (by simp)
    obtain⟨m,rfl⟩:=nF Ae h1
    have h2:e.key= .int q m:=h2
    unfold Instr.findNow kf
    rw[h2]
    simp only[Instr.sameNow,if_true]
    by_cases hnm:n=m
    ·subst hnm;simp
    ·have cM: ¬(Value.int q m=Value.int q n):=fun e=>by injection e with _ e;exact hnm e.symm
     rw[if_neg cM]
     have:(n==m)=false:=by simpa using hnm
     rw[this]
     exact ih (i+1) fun e he=>Eh e (by simp[he])
  simp only[fx]
  simp[Instr.findKey,Sem.run_bind,run_underlying hu,Result.andThen,ae2 es 0 Eh]
theorem BX{b:Bool}(d:Nat)(xs:Array Value): ∀(fs:List Field) (ks:List VK) (off:Nat) (xr:List Value),Q1 P fs ks off=true→bz ks xr=true→(∀j v,xr[j]? =some v→xs[off+j]? =some v)→
  ∀w,(forIn fs PUnit.unit fun f _=>(if f.name≠ "_" then do
    let x←Go.part f.type xs f.offset
    Instr.checkKey b (d+1) f.type x
    pure (ForInStep.yield PUnit.unit)
   else pure (ForInStep.yield PUnit.unit)):Sem PUnit).run P w= .ok PUnit.unit w
 |[],[],off,[],_,_,_,w=>by simp
 |f::fs,k::ks,off,a::xr,h,hx,gx,w=>by
  simp only[Q1,Bool.and_eq_true,bne_iff_ne,ne_eq]at h
  obtain⟨h1,h2,h3,h4⟩:=h
  have h2:=dg h2
  have p1: ∀w,(Go.part f.type xs f.offset).run P w= .ok a w:=fun w=>run_part_plain w (qx h3) (by rw[h2];exact gx 0 a rfl)
  have ih:=BX (b:=b) d xs fs ks (off+1) xr h4 (pS hx) (fun j v hj=>by have:=gx (j+1) v (by simpa using hj);rwa [show off+1+j=off+(j+1)by omega]) w
  have Lx: ∀w,(Instr.checkKey b (d+1) f.type a).run P w= .ok () w:=fun w=>by
   unfold vR at h3
   split at h3
   ·rename_i q q' hu
    cases a<;>simp[bz]at hx
    simp[Instr.checkKey,Sem.run_bind,run_underlying hu,Result.andThen]
   ·rename_i hu
    cases a<;>simp[bz]at hx
    simp[Instr.checkKey,Sem.run_bind,run_underlying hu,Result.andThen]
   ·rename_i hu
    cases a<;>simp[bz]at hx
    simp[Instr.checkKey,Sem.run_bind,run_underlying hu,Result.andThen]
   ·cases h3
  simp only[List.forIn_cons,Sem.run_bind,h1,ne_eq,not_false_eq_true,if_true,p1,Result.andThen,Lx,Sem.run_pure]
  exact ih
 |[],_::_,_,_,h,_,_,_=>by simp[Q1]at h
 |_::_,[],_,_,h,_,_,_=>by simp[Q1]at h
 |_::_,k::_,_,[],_,hx,_,_=>by cases k<;>simp[bz]at hx
 |[],[],_,_::_,_,hx,_,_=>by simp[bz]at hx
theorem LZ{t:Nat}{ks:List VK}(hlen:2≤ks.length)(ht:P.underlying t=some (.struct (P.fieldsOf t)))(hp:P.stoodInHeld t=false)(hf:Q1 P (P.fieldsOf t).toList ks 0=true)(hg:P.eqGuardType P.depth t=false):KeyLaw P t ks:=by
 have nF: ∀kv,bz ks kv=true→fx kv= .agg kv.toArray:=fun kv h=>by
  have:=ir h
  match kv,this with
  |[],h=>simp at h;omega
  |[x],h=>simp at h;omega
  |x::y::r,_=>rfl
 have heq:=(Dp ht hp hf hg).eq
 refine⟨fun kv h b w=>?_,fun kv es h Eh w=>?_,fun kv h=>Dy h⟩
 ·rw[nF kv h]
  have:=BX (P:=P) (b:=b) 9998 kv.toArray _ ks 0 kv hf h (fun j v hj=>by simpa using hj) w
  show(Instr.checkKey b (9999+1) t (.agg kv.toArray)).run P w=_
  rw[Instr.checkKey]
  simp only[Sem.run_bind,run_underlying ht,Result.andThen]
  rw[←Array.forIn_toList]
  split
  ·rename_i h;cases this.symm.trans h;rfl
  ·rename_i h;cases this.symm.trans h
 ·rw[nF kv h]
  have apD: ∀(es:List MapEntry) (i:Nat),(∀e∈es,∃Ae,bz ks Ae=true∧e.key=fx Ae)→(Instr.findAsking t (.agg kv.toArray) es i).run P w= .ok (kf (.agg kv.toArray) es i) w:=by
   intro es
   induction es with
   |nil=>intro i _;simp[Instr.findAsking,kf]
   |cons e r ih=>
    intro i Eh
    obtain⟨Ae,h1,h2⟩:=Eh e (by simp)
    rw[nF Ae h1]at h2
    obtain⟨b,yD,Cn⟩:=heq kv Ae h h1
    have ih':=ih (i+1) fun e he=>Eh e (by simp[he])
    unfold kf
    have ajU:(e.key=Value.agg kv.toArray)↔b=true:=by
     rw[h2,yD]
     constructor
     ·intro e;injection e with e;exact(List.toArray_inj e).symm
     ·intro e;rw[e]
    cases b with
    |true=>rw[if_pos (ajU.2 rfl)];simp[Instr.findAsking,h2,Op.equal,Op.maxDepth,Cn,Sem.run_bind,Result.andThen]
    |false=>rw[if_neg (fun e=>by have:=ajU.1 e;cases this)];simp[Instr.findAsking,h2,Op.equal,Op.maxDepth,Cn,Sem.run_bind,Result.andThen,ih']
  cases es with
  |nil=>simp[Instr.findKey,Sem.run_bind,run_underlying ht,Result.andThen,Instr.findNow,kf]
  |cons e r=>
   obtain⟨Ae,h1,h2⟩:=Eh e (by simp)
   have ae2:Instr.findNow (.struct (P.fieldsOf t)) (.agg kv.toArray) (e::r) 0=none:=by simp[Instr.findNow,Instr.sameNow]
   simp only[Instr.findKey,Sem.run_bind,run_underlying ht,Result.andThen,ae2]
   exact apD (e::r) 0 Eh
end
def kN(t:Nat):Option (List VK):=bif cS t 3 then some [.int .i64]else bif cS t 87 then some [.int .i64,.str,.int .i64]else none
def sf(t:Nat):Option (List VK):=bif cS t 87 then some [.int .i64,.str,.int .i64]else bif cS t 122 then some (List.replicate 6 (.int .i64))else bif cS t 110 then some (List.replicate 12 (.int .i64))else none
theorem OR:PP.eqGuardType PP.depth 87=false:=by kernel_rfl
theorem N2:PP.underlying 87=some (.struct (PP.fieldsOf 87)):=by kernel_rfl
theorem N7:PP.stoodInHeld 87=false:=by kernel_rfl
theorem Uw:Q1 PP (PP.fieldsOf 87).toList [.int .i64,.str,.int .i64] 0=true:=by kernel_rfl
theorem Io: ∀t ks,kN t=some ks→KeyLaw PP t ks:=fun t ks h=>by
 unfold kN at h
 cases h1:cS t 3 with
 |true=>
  rw[h1,cond_true]at h;cases h
  rw[dg h1]
  exact XU (by kernel_rfl)
 |false=>
  rw[h1,cond_false]at h
  cases h2:cS t 87 with
  |true=>
   rw[h2,cond_true]at h;cases h
   rw[dg h2]
   exact LZ (by simp) N2 N7 Uw OR
  |false=>rw[h2,cond_false]at h;cases h
theorem OY: ∀t ks,sf t=some ks→tl PP t ks:=fun t ks h=>by
 unfold sf at h
 cases h2:cS t 87 with
 |true=>
  rw[h2,cond_true]at h;cases h
  rw[dg h2]
  exact Dp N2 N7 Uw OR
 |false=>
  rw[h2,cond_false]at h
  cases h3:cS t 122 with
  |true=>
   rw[h3,cond_true]at h;cases h
   rw[dg h3]
   obtain⟨i,hi⟩:=info_of_underlying (P:=PP) (t:=3) (d:= .int .i64) (by kernel_rfl)
   exact GL (e:=3) (by kernel_rfl) hi (by kernel_rfl) (by kernel_rfl) (by kernel_rfl)
  |false=>
   rw[h3,cond_false]at h
   cases h4:cS t 110 with
   |true=>
    rw[h4,cond_true]at h;cases h
    rw[dg h4]
    obtain⟨i,hi⟩:=info_of_underlying (P:=PP) (t:=3) (d:= .int .i64) (by kernel_rfl)
    exact GL (e:=3) (by kernel_rfl) hi (by kernel_rfl) (by kernel_rfl) (by kernel_rfl)
   |false=>rw[h4,cond_false]at h;cases h
end Ab
namespace Ab
open Go
section
variable{α β R S:Type}
def iter(body:(S→Option R)→S→Option R):Nat→S→Option R
 |0,_=>none
 |n+1,s=>body (iter body n) s
def an0(a:α)(f:α→β):β:=f a
def aq(l:List α):Int:=l.length
def gI(l:List α)(i:Int):Option α:=if 0≤i then l[i.toNat]? else none
def gK(l:List α)(k:Nat):Option α:=l[k]?
def gN(m:Nat)(i:Int):Option Nat:=if 0≤i∧i<m then some i.toNat else none
def gB(b:ByteArray)(i:Int):Option Int:=if 0≤i then(b[i.toNat]?).map fun c=>(c.toNat:Int)else none
def aI(b:Nat)(l:List α)(x:α):Option (List α):=if(l.length+1)*b≤70368744177664∧l.length+1≤70368744177664 then some (l++[x])else none
def CA(b:Nat)(l m:List α):Option (List α):=if(l.length+m.length)*b≤70368744177664∧l.length+m.length≤70368744177664 then some (l++m)else none
def vc(b:Nat)(n:Int)(x:α):Option (List α):=if 0≤n∧n≤9223372036854775807∧n*b≤140737488355328 then some (List.replicate n.toNat x)else none
def gg(l:List α)(k:Nat)(x:α):Option (List α):=if k<l.length then some (l.set k x)else none
def EC(l:List α)(a b:Int):Option (List α):=if 0≤a∧a≤b∧b≤l.length then some ((l.take b.toNat).drop a.toNat)else none
def EE(l:ByteArray)(a b:Int):Option ByteArray:=if 0≤a∧a≤b∧b≤l.size then some (l.extract a.toNat b.toNat)else none
def la(b:ByteArray):Int:=b.size
def letV(a:α)(f:α→β):β:=f a
def dM(n:Nat)(l:List α):Option Unit:=if n=l.length then some ()else none
def cJ(g b:Bool)(x:Option α)(d:α):Option α:=bif g==b then x else some d
theorem Zz{o:Option α}{f:α→Option β}{v:β}(h:o.bind f=some v): ∃a,o=some a∧f a=some v:=by
 cases o with
 |none=>cases h
 |some a=>exact⟨a,rfl,h⟩
theorem ab{o:Option α}{f:α→Option β}{v:β}{G:Prop}(h:o.bind f=some v)(k: ∀a,o=some a→f a=some v→G):G:=by
 obtain⟨a,h1,h2⟩:=Zz h;exact k a h1 h2
theorem jV{α0 α1:Type}{o:Option (α0×α1)}{f:α0×α1→Option β}{v:β}{G:Prop}(h:o.bind f=some v)(k: ∀a0 a1,o=some (a0,a1)→f (a0,a1)=some v→G):G:=by
 obtain⟨⟨a0,a1⟩,h1,h2⟩:=Zz h;exact k a0 a1 h1 h2
theorem akX{α0 α1 α2:Type}{o:Option (α0×α1×α2)}{f:α0×α1×α2→Option β}{v:β}{G:Prop}(h:o.bind f=some v)(k: ∀a0 a1 a2,o=some (a0,a1,a2)→f (a0,a1,a2)=some v→G):G:=by
 obtain⟨⟨a0,a1,a2⟩,h1,h2⟩:=Zz h;exact k a0 a1 a2 h1 h2
theorem bndE4{α0 α1 α2 α3:Type}{o:Option (α0×α1×α2×α3)}{f:α0×α1×α2×α3→Option β}{v:β}{G:Prop}(h:o.bind f=some v)(k: ∀a0 a1 a2 a3,o=some (a0,a1,a2,a3)→f (a0,a1,a2,a3)=some v→G):G:=by
 obtain⟨⟨a0,a1,a2,a3⟩,h1,h2⟩:=Zz h;exact k a0 a1 a2 a3 h1 h2
theorem O9{α0 α1 α2 α3 α4:Type}{o:Option (α0×α1×α2×α3×α4)}{f:α0×α1×α2×α3×α4→Option β}{v:β}{G:Prop}(h:o.bind f=some v)(k: ∀a0 a1 a2 a3 a4,o=some (a0,a1,a2,a3,a4)→f (a0,a1,a2,a3,a4)=some v→G):G:=by
 obtain⟨⟨a0,a1,a2,a3,a4⟩,h1,h2⟩:=Zz h;exact k a0 a1 a2 a3 a4 h1 h2
theorem bndE6{α0 α1 α2 α3 α4 α5:Type}{o:Option (α0×α1×α2×α3×α4×α5)}{f:α0×α1×α2×α3×α4×α5→Option β}{v:β}{G:Prop}(h:o.bind f=some v)(k: ∀a0 a1 a2 a3 a4 a5,o=some (a0,a1,a2,a3,a4,a5)→f (a0,a1,a2,a3,a4,a5)=some v→G):G:=by
 obtain⟨⟨a0,a1,a2,a3,a4,a5⟩,h1,h2⟩:=Zz h;exact k a0 a1 a2 a3 a4 a5 h1 h2
theorem bndE7{α0 α1 α2 α3 α4 α5 α6:Type}{o:Option (α0×α1×α2×α3×α4×α5×α6)}{f:α0×α1×α2×α3×α4×α5×α6→Option β}{v:β}{G:Prop}(h:o.bind f=some v)(k: ∀a0 a1 a2 a3 a4 a5 a6,o=some (a0,a1,a2,a3,a4,a5,a6)→f (a0,a1,a2,a3,a4,a5,a6)=some v→G):G:=by
 obtain⟨⟨a0,a1,a2,a3,a4,a5,a6⟩,h1,h2⟩:=Zz h;exact k a0 a1 a2 a3 a4 a5 a6 h1 h2
theorem bndE8{α0 α1 α2 α3 α4 α5 α6 α7:Type}{o:Option (α0×α1×α2×α3×α4×α5×α6×α7)}{f:α0×α1×α2×α3×α4×α5×α6×α7→Option β}{v:β}{G:Prop}(h:o.bind f=some v)(k: ∀a0 a1 a2 a3 a4 a5 a6 a7,o=some (a0,a1,a2,a3,a4,a5,a6,a7)→f (a0,a1,a2,a3,a4,a5,a6,a7)=some v→G):G:=by
 obtain⟨⟨a0,a1,a2,a3,a4,a5,a6,a7⟩,h1,h2⟩:=Zz h;exact k a0 a1 a2 a3 a4 a5 a6 a7 h1 h2
theorem bndE9{α0 α1 α2 α3 α4 α5 α6 α7 α8:Type}{o:Option (α0×α1×α2×α3×α4×α5×α6×α7×α8)}{f:α0×α1×α2×α3×α4×α5×α6×α7×α8→Option β}{v:β}{G:Prop}(h:o.bind f=some v)(k: ∀a0 a1 a2 a3 a4 a5 a6 a7 a8,o=some (a0,a1,a2,a3,a4,a5,a6,a7,a8)→f (a0,a1,a2,a3,a4,a5,a6,a7,a8)=some v→G):G:=by
 obtain⟨⟨a0,a1,a2,a3,a4,a5,a6,a7,a8⟩,h1,h2⟩:=Zz h;exact k a0 a1 a2 a3 a4 a5 a6 a7 a8 h1 h2
theorem Oy{α0 α1 α2:Type}{a:α0×α1×α2}{f:α0×α1×α2→Option β}{v:β}{G:Prop}(h:(some a).bind f=some v)(k: ∀a0 a1 a2,a=(a0,a1,a2)→f (a0,a1,a2)=some v→G):G:=k a.1 a.2.1 a.2.2 rfl h
theorem letE{a:α}{f:α→Option β}{v:β}{G:Prop}(h:(some a).bind f=some v)(k: ∀x,a=x→f x=some v→G):G:=k a rfl h
theorem lets{a:α}{f:α→Option β}{v:β}(h:(some a).bind f=some v): ∃x,a=x∧f x=some v:=⟨a,rfl,h⟩
theorem aw{g b:Bool}{x:Option α}{d a:α}(h:cJ g b x d=some a)(hg:g=b):x=some a:=by
 subst hg
 unfold cJ at h
 simpa using h
theorem L2{W:St→(Ex→St→Prop)→Prop}{s:St}{Q:Ex→St→Prop}{body:(S→Option R)→S→Option R}{n:Nat}{Am:S}{v:R}(h:iter body n Am=some v)
  (vu:Option (List Fr))(vt:S→List (Nat×AV))(vb:S→List (Nat×Ob))(vg:S→Nat→Option Ob)(vn:S→Nat)(h0:wk s (oM s vu (vt Am) (vb Am) (vg Am) (vn Am)))
  (hr: ∀(R:St→Prop) (m:Nat),(∀(st:S) (s':St),iter body m st=some v→wk s' (oM s vu (vt st) (vb st) (vg st) (vn st))→R s')→ ∀st:S,body (iter body m) st=some v→
   W (oM s vu (vt st) (vb st) (vg st) (vn st)) (RM R Q)):nw W n s Q:=by
 have key: ∀(n:Nat) (st:S),iter body n st=some v→Ix W Q n (oM s vu (vt st) (vb st) (vg st) (vn st)):=fun n=>by
  induction n with
  |zero=>intro st h;cases h
  |succ m ih=>intro st h;exact hr _ m (fun st' s' h1 h2=> .inr ⟨_,h2,ih st' h1⟩) st h
 exact .inr ⟨_,h0,key n Am h⟩
theorem step_loop{W:St→(Ex→St→Prop)→Prop}{s:St}{Q:Ex→St→Prop}{body:(S→Option R)→S→Option R}{n:Nat}{Am:S}{v:R}(h:iter body n Am=some v)
  (vu:Option (List Fr))(vt:S→List (Nat×AV))(vb:S→List (Nat×Ob))(vg:S→Nat→Option Ob)(vn:S→Nat)(h0:wk s (oM s vu (vt Am) (vb Am) (vg Am) (vn Am)))
  (hr: ∀(R:St→Prop) (m:Nat),(∀(st:S) (s':St),iter body m st=some v→wk s' (oM s vu (vt st) (vb st) (vg st) (vn st))→R s')→ ∀st:S,body (iter body m) st=some v→
   W (oM s vu (vt st) (vb st) (vg st) (vn st)) (RM R Q)):NV W s Q:=⟨n,L2 h vu vt vb vg vn h0 hr⟩
def akt:List Nat→List (Nat×Ob)→List (Nat×Ob)
 |[],b=>b
 |d::r,b=>akt r (del d b)
def qL(s:St)(vd:List Nat)(vu:Option (List Fr))(vt:List (Nat×AV))(vb:List (Nat×Ob))(vg:Nat→Option Ob)(vn:Nat):St:=
 {s with t:=Rr vt s.t,b:=Rr vb (akt vd s.b),g:=vg,nx:=vn,up:=match vu with|none=>s.up|some u=>u}
theorem L3{W:St→(Ex→St→Prop)→Prop}{s:St}{Q:Ex→St→Prop}{body:(S→Option R)→S→Option R}{n:Nat}{Am:S}{v:R}(h:iter body n Am=some v)(vd:List Nat)
  (vu:Option (List Fr))(vt:S→List (Nat×AV))(vb:S→List (Nat×Ob))(vg:S→Nat→Option Ob)(vn:S→Nat)(h0:wk s (qL s vd vu (vt Am) (vb Am) (vg Am) (vn Am)))
  (hr: ∀(R:St→Prop) (m:Nat),(∀(st:S) (s':St),iter body m st=some v→wk s' (qL s vd vu (vt st) (vb st) (vg st) (vn st))→R s')→ ∀st:S,body (iter body m) st=some v→
   W (qL s vd vu (vt st) (vb st) (vg st) (vn st)) (RM R Q)):nw W n s Q:=by
 have key: ∀(n:Nat) (st:S),iter body n st=some v→Ix W Q n (qL s vd vu (vt st) (vb st) (vg st) (vn st)):=fun n=>by
  induction n with
  |zero=>intro st h;cases h
  |succ m ih=>intro st h;exact hr _ m (fun st' s' h1 h2=> .inr ⟨_,h2,ih st' h1⟩) st h
 exact .inr ⟨_,h0,key n Am h⟩
theorem L0{W:St→(Ex→St→Prop)→Prop}{s:St}{Q:Ex→St→Prop}{N:Nat}(h: ∀R:St→Prop,(∀s',nw W N s' Q→R s')→W s (RM R Q)):nw W (N+1) s Q:=
 .inl (h _ fun _ hs=>hs)
theorem ic{W:St→(Ex→St→Prop)→Prop}{s:St}{Q:Ex→St→Prop}(N:Nat)(h: ∀R:St→Prop,(∀s',nw W N s' Q→R s')→W s (RM R Q)):NV W s Q:=⟨N+1,L0 h⟩
theorem step_peelW{W:St→(Ex→St→Prop)→Prop}{s:St}{Q:Ex→St→Prop}{N:Nat}(vu:Option (List Fr))(vt:List (Nat×AV))(vb:List (Nat×Ob))(vg:Nat→Option Ob)(vn:Nat)(hk:wk s (oM s vu vt vb vg vn))
  (h: ∀R:St→Prop,(∀s',nw W N s' Q→R s')→W (oM s vu vt vb vg vn) (RM R Q)):nw W (N+1) s Q:= .inr ⟨_,hk,h _ fun _ hs=>hs⟩
theorem CR{x c:Bool}{A B:Option R}{v:R}{G1 G2:Prop}(h:(bif c then A else B)=some v)(hx:x=c)(h1:A=some v→G1)(h2:B=some v→G2):(x=true→G1)∧(x=false→G2):=by
 subst hx
 exact⟨fun e=>h1 (by subst e;exact h),fun e=>h2 (by subst e;exact h)⟩
variable{M:Md}{I:Pr}{enc:α→List AV}
theorem aE(hM:M= .al):M.map enc []=[]:=by subst hM;rfl
theorem Oo(hM:M= .al):[]=M.map enc []:=by subst hM;rfl
theorem ak(hI:I=al)(hM:M= .al){l:List α}{z:Int}(hz:aq l=z):Int.ofNat (I.eR (M.map enc l))=z:=by
 subst hI;subst hM;rw[←hz];simp[al,Md.al,aq]
theorem lna_ok(hM:M= .al){l:List α}{z:Int}(hz:aq l=z):Int.ofNat (M.ln l)=z:=by
 subst hM;rw[←hz];rfl
theorem ai(hM:M= .al){l:List α}{n:Int}{x:α}(hx:gI l n=some x){k:Nat}(hk:(enc x).length=k):0≤n∧(M.map enc l)[n.toNat]? =some (enc x)∧(enc x).length=k:=by
 subst hM
 unfold gI at hx
 split at hx
 ·rename_i h0
  refine⟨h0,?_,hk⟩
  show(List.map enc l)[n.toNat]? =_
  rw[List.getElem?_map,hx];rfl
 ·cases hx
theorem bS(hI:I=al)(hM:M= .al){l:List α}{n:Int}{k:Nat}(hk:gN (M.ln l) n=some k):I.within n (M.ln l)∧I.nat n=k:=by
 subst hI;subst hM
 unfold gN at hk
 split at hk
 ·rename_i h
  exact⟨h,Option.some.inj hk⟩
 ·cases hk
theorem bc(hM:M= .al){l:List α}{k:Nat}{x:α}(hx:gK l k=some x):(M.map enc l)[k]? =some (enc x):=by
 subst hM
 show(List.map enc l)[k]? =_
 rw[List.getElem?_map]
 unfold gK at hx
 rw[hx];rfl
theorem Bb{C:dj}(hI:C.I=al)(hM:M= .al){ti:TI}{l m l':List α}(hx:CA ti.bytes l m=some l')(he: ∀y,(enc y).length=ti.size)(h1:lL 1 ti.size=true)(ho: ∀y,lf (enc y)=true):
  IS C ti (M.map enc l) (M.map enc m) (M.map enc l'):=by
 subst hM
 unfold CA at hx
 split at hx
 ·rename_i hr
  cases hx
  refine⟨⟨?_,h1,?_,fun c hc=>?_⟩,fun c hc=>?_,?_⟩
  ·rw[hI]
   show(_∧_)
   simp only[al,Md.al,List.length_map]
   exact hr
  ·simp only[Md.al]
   clear hr
   induction m with
   |nil=>rfl
   |cons y r ih=>simp only[List.map_cons,dU,ho,ih,Bool.and_true]
  ·simp only[Md.al,List.mem_map]at hc
   obtain⟨y,_,rfl⟩:=hc
   exact he y
  ·simp only[Md.al,List.mem_map]at hc
   obtain⟨y,_,rfl⟩:=hc
   exact he y
  ·rw[hI];simp[al,Md.al]
 ·cases hx
theorem JZ{b:Nat}{l l':List α}{x:α}(hx:aI b l x=some l'):CA b l [x]=some l':=hx
theorem au{C:dj}(hI:C.I=al)(hM:M= .al){ti:TI}{l l':List α}{x:α}(hx:aI ti.bytes l x=some l')(he: ∀y,(enc y).length=ti.size)(h1:lL 1 ti.size=true)(ho: ∀y,lf (enc y)=true):
  IS C ti (M.map enc l) (M.map enc [x]) (M.map enc l'):=Bb hI hM (JZ hx) he h1 ho
theorem ZF{C:dj}(hI:C.I=al)(hM:M= .al){ti:TI}{m l':List α}(hx:CA ti.bytes [] m=some l')(he: ∀y,(enc y).length=ti.size)(h1:lL 1 ti.size=true)(ho: ∀y,lf (enc y)=true):
  IS C ti [] (M.map enc m) (M.map enc l'):=by
 have:=Bb (enc:=enc) hI hM hx he h1 ho
 rwa [aE hM]at this
theorem ap_nil1{C:dj}(hI:C.I=al)(hM:M= .al){ti:TI}{l':List α}{x:α}(hx:aI ti.bytes [] x=some l')(he: ∀y,(enc y).length=ti.size)(h1:lL 1 ti.size=true)(ho: ∀y,lf (enc y)=true):
  IS C ti [] (M.map enc [x]) (M.map enc l'):=ZF hI hM (JZ hx) he h1 ho
theorem ap_app0{C:dj}(hI:C.I=al)(hM:M= .al){ti:TI}{l l':List α}(hx:CA ti.bytes l []=some l')(he: ∀y,(enc y).length=ti.size)(h1:lL 1 ti.size=true)(ho: ∀y,lf (enc y)=true):
  IS C ti (M.map enc l) [] (M.map enc l'):=by
 have:=Bb (enc:=enc) hI hM hx he h1 ho
 rwa [aE hM]at this
theorem ap_nil0{C:dj}(hI:C.I=al)(hM:M= .al){ti:TI}{l':List α}(hx:CA ti.bytes [] []=some l')(he: ∀y,(enc y).length=ti.size)(h1:lL 1 ti.size=true)(ho: ∀y,lf (enc y)=true):
  IS C ti [] [] (M.map enc l'):=by
 have:=Bb (enc:=enc) hI hM hx he h1 ho
 rwa [aE hM]at this
theorem dw{C:dj}(hI:C.I=al)(hM:M= .al){ti:TI}{n:Int}{x:α}{l:List α}(hx:vc ti.bytes n x=some l)(h1:1≤ti.size)(he:ti.zero.map AV.v=enc x):
  aiP C ti n n (M.map enc l) (M.ln l):=by
 subst hM
 unfold vc at hx
 split at hx
 ·rename_i hr
  cases hx
  refine⟨h1,rfl,?_,?_,?_⟩
  ·rw[hI];exact hr
  ·rw[hI,he];simp[al,Md.al]
  ·simp[Md.al]
 ·cases hx
theorem cF(hI:I=al)(hM:M= .al){ti:TI}{l l':List α}{k off z:Nat}{x y:α}{cs:List AV}(hy:gK l k=some y)(hx:gg l k x=some l')(hz:off+ti.size≤z)(hi:bZ cs=true)(he:bD (enc y) off cs=enc x):
  ahR I ti (M.map enc l) k off z z cs (M.map enc l'):=by
 subst hI;subst hM
 unfold gg at hx
 split at hx
 ·cases hx
  refine⟨enc y,rfl,?_,hz,hi,?_⟩
  ·show(List.map enc l)[k]? =_
   rw[List.getElem?_map]
   unfold gK at hy
   rw[hy];rfl
  ·rw[he]
   show(List.map enc l).set k (enc x)=_
   rw[←List.map_set];rfl
 ·cases hx
theorem wu(hI:I=al)(hM:M= .al){l l':List α}{a b:Int}{k:Nat}(hx:EC l a b=some l')(he: ∀y,(enc y).length=k):
  (I.nq a b (I.eR (M.map enc l))∧ ∀cs∈M.map enc l,cs.length=k)∧I.EB (M.map enc l) a b=M.map enc l':=by
 subst hI;subst hM
 unfold EC at hx
 split at hx
 ·rename_i hr
  cases hx
  refine⟨⟨?_,fun c hc=>?_⟩,?_⟩
  ·show 0≤a∧a≤b∧b≤((List.map enc l).length:Int)
   rw[List.length_map];exact hr
  ·simp only[Md.al,List.mem_map]at hc
   obtain⟨y,_,rfl⟩:=hc
   exact he y
  ·simp[al,Md.al,List.map_take,List.map_drop]
 ·cases hx
theorem Zo(hI:I=al)(hM:M= .al){l l':List α}{a:Int}{k:Nat}(hx:EC l a (aq l)=some l')(he: ∀y,(enc y).length=k):
  (I.nq a (Int.ofNat (I.eR (M.map enc l))) (I.eR (M.map enc l))∧ ∀cs∈M.map enc l,cs.length=k)∧I.EB (M.map enc l) a (Int.ofNat (I.eR (M.map enc l)))=M.map enc l':=by
 have:=wu (enc:=enc) hI hM hx he
 rw[←ak (enc:=enc) hI hM (rfl:aq l=_)]at this
 exact this
theorem gf(hI:I=al){b:ByteArray}{z:Int}(hz:la b=z):Int.ofNat (I.Lb b)=z:=by
 subst hI;rw[←hz];rfl
theorem IJ(hI:I=al){b b':ByteArray}{l h:Int}(hx:EE b l h=some b'):I.nq l h (I.Lb b)∧I.II b l h=b':=by
 subst hI
 unfold EE at hx
 split at hx
 ·rename_i hr;cases hx;exact⟨hr,rfl⟩
 ·cases hx
theorem ED(hI:I=al){b b':ByteArray}{l:Int}(hx:EE b l (la b)=some b'):I.nq l (Int.ofNat (I.Lb b)) (I.Lb b)∧I.II b l (Int.ofNat (I.Lb b))=b':=by
 have:=IJ hI hx
 rw[←gf hI (rfl:la b=_)]at this
 exact this
theorem mY{b:ByteArray}{n z:Int}(hx:gB b n=some z):0≤n∧ ∃c:UInt8,b[n.toNat]? =some c∧(c.toNat:Int)=z:=by
 unfold gB at hx
 split at hx
 ·rename_i h0
  cases hc:b[n.toNat]? with
  |none=>rw[hc]at hx;cases hx
  |some c=>rw[hc]at hx;cases hx;exact⟨h0,c,rfl,rfl⟩
 ·cases hx
theorem XF(hM:M= .al){l0 l:List α}{r:Nat}{u:Unit}(h:dM (M.ln l0) l=some u):AV.sl r ((M.map enc l).take (M.ln l0))=AV.sl r (M.map enc l):=by
 subst hM
 unfold dM at h
 split at h
 ·rename_i hl
  rw[hl]
  congr 1
  exact List.take_of_length_le (by simp[Md.al])
 ·cases h
theorem dC(a:AV):NX a a:=by
 cases a with
 |v x=>
  cases x with
  |slice A n c=>
   cases A with
   |none=>cases n with
    |zero=>cases c<;>rfl
    |succ n=>rfl
   |some A=>rfl
  |_=>rfl
 |any=>trivial
 |_=>rfl
theorem af: ∀cs:List AV,ZV cs cs
 |[]=>trivial
 |a::r=>⟨dC a,af r⟩
 mutual
theorem ay: ∀a:AV,I0 a a
  | .agg cs=>by unfold I0;exact af cs
  | .fT cs=>by unfold I0;exact FX cs
  | .any=>dC .any
  | .v x=>dC (.v x)
  | .sl r xs=>dC (.sl r xs)
  | .gs r t xs=>dC (.gs r t xs)
  | .aO r cs o=>dC (.aO r cs o)
  | .ptr k o=>dC (.ptr k o)
  | .ia k n=>dC (.ia k n)
  | .cG k i o z=>dC (.cG k i o z)
  | .mp i=>dC (.mp i)
  | .pV k=>dC (.pV k)
  | .ar n z xs=>dC (.ar n z xs)
  | .fn f cs=>dC (.fn f cs)
  | .bm f cs=>dC (.bm f cs)
  | .nc r z xs=>dC (.nc r z xs)
theorem FX: ∀a:List AV,LO a a
  |[]=>trivial
  |a::r=>⟨ay a,FX r⟩
end
def eIntK(k:IntKind)(n:Int):List AV:=[.v (.int k n)]
def eSl(M:Md)(r:Nat)(enc:α→List AV)(l:List α):List AV:=[.sl r (M.map enc l)]
theorem bJ(hM:M= .al){x:α}{c:List AV}(h:ZV c (enc x))(hi:bZ (enc x)=true):NB [c] (M.map enc [x]):=
 ⟨[enc x],⟨⟨h,hi⟩,trivial⟩,by subst hM;rfl⟩
theorem bl0(hM:M= .al):NB [] (M.map enc []):=⟨[],trivial,by subst hM;rfl⟩
theorem gH(hM:M= .al){l:List α}{cs:List (List AV)}(h:wkL cs (l.map enc)):NB cs (M.map enc l):=⟨_,h,by subst hM;rfl⟩
theorem W1(hM:M= .al)(l:List α):(M.map enc l).take (M.ln l)=M.map enc l:=by subst hM;exact List.take_of_length_le (by simp[Md.al])
end
theorem A8{L:nO}(hL:bn PP L)(hm:PP.follows .mixedOrders=true){f:Nat}{fn:Func}{c:Code}(hf:PP.funcs[f]? =some fn)(hb:fn.body=some c){args:List AV}{g:Nat→Option Ob}{nx:Nat}{r:AV}{g':Nat→Option Ob}{gG:Nat}(hr:cm r=true)
  (ρ:Nat)(sh:List Nat)(tree:Nat→Tree)(dead:Nat→List Nat)(op:List Nat)(cl:Nat→Bool){T:Nat→Option FI}(hT:bk PP cl T)(iH: ∀k,cl k=true→ue T k=false)(fuel:Nat)(hd:cg cl tree c=true)(n:Nat)(hn:fn.ntmps=n)(I5:lL args.length n=true){rs:List ResultVar}(T6:fn.results.toList=rs){I:Pr}(hI:I=al)
  (hk: ∀call:oO,Any PP call→pY (m0 {I:=I,L:=L,ρ:=ρ,sh:=sh,tree:=tree,call:=call,op:=op,dead:=dead,cl:=cl,keys:=kN,eqs:=sf} T fuel 0) c (init n args g nx) (post (m0 {I:=I,L:=L,ρ:=ρ,sh:=sh,tree:=tree,call:=call,op:=op,dead:=dead,cl:=cl,keys:=kN,eqs:=sf} T fuel 0) rs fun r1 g1 zb=>I0 r1 r∧g1=g'∧zb=gG)):km PP f args g nx r g' gG:=
 (U0 hL hm hf hb ρ sh tree dead op cl Io OY hT iH fuel hd n hn I5 T6 fun J call hJ hc _=>by rw[hJ,←hI];exact hk call hc).akG hr
theorem aX{W:St→(St→Prop)→Prop}{s:St}{Q:St→Prop}(vu:Option (List Fr))(vt:List (Nat×AV))(vb:List (Nat×Ob))(vg:Nat→Option Ob)(vn:Nat)
  (h1:W s (fun s1=>s1=oM s vu vt vb vg vn∨wk s1.clean (oM s vu vt vb vg vn)))(h2:Q (oM s vu vt vb vg vn).clean):ZW W s Q:=⟨_,h1,_,rfl,h2⟩
def uI(k:Nat)(fi:FI)(T:Nat→Option FI):Nat→Option FI:=fun j=>bif cS k j then some fi else T j
theorem bk.cons{P:Program}{cl:Nat→Bool}{k:Nat}{fi:FI}{T:Nat→Option FI}(h:lk P cl k fi)(hT:bk P cl T):bk P cl (uI k fi T):=fun j fj hj=>by
 unfold uI at hj
 by_cases hk:k=j
 ·subst hk
  rw[eZ,cond_true]at hj
  cases hj;exact h
 ·rw[xZ hk,cond_false]at hj
  exact hT j fj hj
theorem cl0(cl:Nat→Bool): ∀k,cl k=true→ue (fun _=>none) k=false:=fun _ _=>rfl
theorem IM{cl:Nat→Bool}{k:Nat}{fi:FI}{T:Nat→Option FI}(h:cl k=false)(hT: ∀k,cl k=true→ue T k=false): ∀j,cl j=true→ue (uI k fi T) j=false:=fun j hj=>by
 have h2:=hT j hj
 unfold ue uI at*
 by_cases hk:k=j
 ·subst hk;rw[h]at hj;cases hj
 ·rw[xZ hk,cond_false];exact h2
theorem step_t{A B:Prop}(h:A):(true=true→A)∧(true=false→B):=⟨fun _=>h,fun h=>(by cases h)⟩
theorem step_f{A B:Prop}(h:B):(false=true→A)∧(false=false→B):=⟨fun h=>(by cases h),fun _=>h⟩
theorem lZ{I:Pr}(hI:I=al){A B:Prop}(h:B):(I.not true=true→A)∧(I.not true=false→B):=by subst hI;exact⟨fun h=>(by cases h),fun _=>h⟩
theorem step_nf{I:Pr}(hI:I=al){A B:Prop}(h:A):(I.not false=true→A)∧(I.not false=false→B):=by subst hI;exact⟨fun _=>h,fun h=>(by cases h)⟩
section
variable{α:Type}{M:Md}{I:Pr}{enc:α→List AV}
def lW(n:Nat)(l:List α):Option Unit:=if l.length=n then some ()else none
theorem aT(hI:I=al)(hM:M= .al){n:Nat}{l:List α}{u:Unit}(h:lW n l=some u):I.eR (M.map enc l)=n:=by
 subst hI;subst hM
 unfold lW at h
 split at h
 ·rename_i hl;show(List.map enc l).length=n;rw[List.length_map];exact hl
 ·cases h
theorem iw(hI:I=al)(hM:M= .al){n:Nat}{x:α}{l:List α}{cs:List AV}(hl:List.replicate n x=l)(h:cs=enc x):I.rep n cs=M.map enc l:=by
 subst hI;subst hM;subst h;subst hl;simp[al,Md.al]
theorem dz(hM:M= .al)(h: ∀y,lf (enc y)=true)(l:List α):dU (M.map enc l)=true:=by
 subst hM
 show dU (List.map enc l)=true
 induction l with
 |nil=>rfl
 |cons y r ih=>simp only[List.map_cons,dU,h,ih,Bool.and_true]
theorem ari_ok(hM:M= .al){l:List α}{n:Int}{x:α}{a:AV}(hx:gI l n=some x)(he:enc x=[a]):0≤n∧(M.map enc l)[n.toNat]? =some [a]:=by
 obtain⟨h1,h2,_⟩:=ai (enc:=enc) hM hx rfl
 exact⟨h1,by rw[h2,he]⟩
theorem aM(hI:I=al){m:Nat}{n:Int}{k:Nat}(hk:gN m n=some k):I.within n m∧I.nat n=k:=by
 subst hI
 unfold gN at hk
 split at hk
 ·rename_i h
  exact⟨h,Option.some.inj hk⟩
 ·cases hk
theorem gI_nil{i:Int}{x:α}(h:gI ([]:List α) i=some x):False:=by
 unfold gI at h
 split at h<;>simp at h
end
section
variable{κ β:Type}[DecidableEq κ]{M:Md}{I:Pr}
def Ey(f:κ→List AV)(g:β→List AV)(x:κ×β):List AV:=f x.1++g x.2
def jS(l:List (κ×β))(k:κ)(d:β):β:=((l.find? fun e=>decide (e.1=k)).map (·.2)).getD d
def Gp(l:List (κ×β))(k:κ)(v:β):Option (List (κ×β)):=if(l.find? fun e=>decide (e.1=k)).isSome then none else some (l++[(k,v)])
def K4(l:List (κ×List β))(k:κ):List (κ×List β)×Nat×List β:=match l.findIdx? fun e=>decide (e.1=k)with
 |some i=>(l,i,((l[i]?).map (·.2)).getD [])
 |none=>(l++[(k,[])],l.length,[])
def Hy(l:List (κ×β))(i:Nat)(v:β):Option (List (κ×β)):=(l[i]?).map fun e=>l.set i (e.1,v)
variable{f:κ→List AV}{g:β→List AV}
theorem Im{k:κ}{n:Nat}(hn: ∀a,(f a).length=n)(x:κ×β):(Ey f g x).take (f k).length=f x.1:=have _:=(inferInstance:DecidableEq κ);by
 unfold Ey
 rw[hn k,←hn x.1,List.take_left]
theorem ya{n:Nat}(hn: ∀a,(f a).length=n)(sT: ∀a b,f a=f b→a=b){l:List (κ×β)}{k:κ}(h:(l.find? fun e=>decide (e.1=k))=none):xG (l.map (Ey f g)) (f k) none:=by
 intro row mE
 obtain⟨x,hx,rfl⟩:=List.mem_map.1 mE
 rw[Im hn]
 intro e
 have:=List.find?_eq_none.1 h x hx
 simp[sT _ _ e]at this
theorem D1{n:Nat}(hn: ∀a,(f a).length=n)(sT: ∀a b,f a=f b→a=b){l:List (κ×β)}{k:κ}{i:Nat}(h:(l.findIdx? fun e=>decide (e.1=k))=some i): ∃x,l[i]? =some x∧x.1=k∧(l.find? fun e=>decide (e.1=k))=some x∧xG (l.map (Ey f g)) (f k) (some i):=by
 obtain⟨aU,h1,h2⟩:=List.findIdx?_eq_some_iff_getElem.1 h
 have hk:l[i].1=k:=by simpa using h1
 refine⟨l[i],by simp[aU],hk,?_,Ey f g l[i],by simp[aU],by rw[Im hn,hk],fun j PJ hj hr=>?_⟩
 ·rw[List.find?_eq_some_iff_getElem]
  exact⟨h1,i,aU,rfl,fun j hj=>by have:=h2 j hj;simpa using this⟩
 ·rw[List.getElem?_map]at hr
  have hjl:j<l.length:=by omega
  rw[List.getElem?_eq_getElem hjl]at hr
  cases hr
  rw[Im hn]
  intro e
  have:=h2 j hj
  simp[sT _ _ e]at this
theorem Em{l:List (κ×β)}{k:κ}:(l.findIdx? fun e=>decide (e.1=k))=none↔(l.find? fun e=>decide (e.1=k))=none:=by
 rw[List.findIdx?_eq_none_iff,List.find?_eq_none]
 constructor
 ·intro h x hx;simp[h x hx]
 ·intro h x hx;simpa using h x hx
theorem TO(hM:M= .al){n:Nat}(hn: ∀a,(f a).length=n)(sT: ∀a b,f a=f b→a=b){av:β→AV}(hg: ∀y,g y=[av y]){l:List (κ×β)}{k:κ}{d x:β}{z:Value}(hx:jS l k d=x){kc:List AV}(hk:kc=f k)(hz:NX (.v z) (av d)):aiS (M.map (Ey f g) l) kc (.v z) (av x):=by
 subst hM;subst hk
 unfold jS at hx
 cases hi:l.findIdx? fun e=>decide (e.1=k)with
 |none=>
  rw[Em.1 hi]at hx
  simp at hx
  subst hx
  exact .inr ⟨ya hn sT (Em.1 hi),hz⟩
 |some i=>
  obtain⟨y,h1,h2,h3,h4⟩:=D1 (g:=g) hn sT hi
  rw[h3]at hx
  simp at hx
  subst hx
  refine .inl ⟨i,Ey f g y,av y.2,h4,by show(l.map _)[i]? =_;rw[List.getElem?_map,h1];rfl,?_,dC _⟩
  unfold Ey
  rw[hn k,←hn y.1,List.getElem?_append_right (Nat.le_refl _),Nat.sub_self,hg]
  rfl
theorem Ov(hI:I=al)(hM:M= .al){n:Nat}(hn: ∀a,(f a).length=n)(sT: ∀a b,f a=f b→a=b){l l':List (κ×β)}{k:κ}{v:β}(hx:Gp l k v=some l'){kc:List AV}{va:AV}(hk:kc=f k)(hv:g v=[va]):xG (M.map (Ey f g) l) kc none∧I.app (M.map (Ey f g) l) [kc++[va]]=M.map (Ey f g) l':=by
 subst hM;subst hI;subst hk
 unfold Gp at hx
 split at hx
 ·cases hx
 ·rename_i h
  cases hx
  refine⟨ya hn sT (Option.not_isSome_iff_eq_none.1 h),?_⟩
  show _++_=List.map _ _
  rw[List.map_append,←hv]
  rfl
theorem O1{C:dj}(hI:C.I=al)(hM:M= .al){n:Nat}(hn: ∀a,(f a).length=n)(sT: ∀a b,f a=f b→a=b){γ:Type}{en:γ→List AV}{l l':List (κ×List γ)}{k:κ}{i:Nat}{ys:List γ}(hx:K4 l k=(l',i,ys)){kc:List AV}(hk:kc=f k){r0:Nat}:
  ako C r0 (M.map (Ey f fun y=>[AV.sl r0 (M.map en y)]) l) kc (M.map (Ey f fun y=>[AV.sl r0 (M.map en y)]) l') i r0 (M.map en ys):=by
 subst hM;subst hk
 unfold K4 at hx
 cases hi:l.findIdx? fun e=>decide (e.1=k)with
 |some j=>
  rw[hi]at hx
  dsimp only at hx
  injection hx with e1 e2
  injection e2 with e2 e3
  subst e1;subst e2
  obtain⟨y,h1,h2,h3,h4⟩:=D1 (g:=fun y=>[AV.sl r0 (Md.al.map en y)]) hn sT hi
  rw[h1]at e3
  simp at e3
  subst e3
  refine .inl ⟨h4,rfl,Ey f (fun y=>[AV.sl r0 (Md.al.map en y)]) y,by show(l.map _)[j]? =_;rw[List.getElem?_map,h1];rfl,?_⟩
  unfold Ey
  rw[hn k,←hn y.1,List.getElem?_append_right (Nat.le_refl _),Nat.sub_self]
  rfl
 |none=>
  rw[hi]at hx
  dsimp only at hx
  injection hx with e1 e2
  injection e2 with e2 e3
  subst e1;subst e2;subst e3
  refine .inr ⟨ya hn sT (Em.1 hi),?_,?_,rfl,rfl⟩
  ·rw[hI];show _++_=List.map _ _;rw[List.map_append];rfl
  ·rw[hI];show(List.map _ _).length=_;rw[List.length_map]
theorem O2{C:dj}(hI:C.I=al)(hM:M= .al){kz:Nat}(hn: ∀a,(f a).length=kz){γ:Type}{en:γ→List AV}{l l':List (κ×List γ)}{i:Nat}{ys:List γ}{r0:Nat}{z:Int}(hx:Hy l i ys=some l'):
  akq C kz (M.map (Ey f fun y=>[AV.sl r0 (M.map en y)]) l) i i z z r0 (M.map en ys) (M.map (Ey f fun y=>[AV.sl r0 (M.map en y)]) l'):=have _:=(inferInstance:DecidableEq κ);by
 subst hM
 unfold Hy at hx
 cases hl:l[i]? with
 |none=>rw[hl]at hx;cases hx
 |some e=>
  rw[hl]at hx
  cases hx
  refine⟨rfl,rfl,Ey f (fun y=>[AV.sl r0 (Md.al.map en y)]) e,by show(l.map _)[i]? =_;rw[List.getElem?_map,hl];rfl,?_⟩
  rw[hI]
  show(l.map _).set i _=(l.set i _).map _
  rw[List.map_set]
  congr 1
  unfold Ey bD
  rw[←hn e.1,List.take_left]
  simp
theorem UK{x y:κ}{b:Bool}(hb:decide (x=y)=b){C:dj}{t:Nat}{ks:List VK}(hk:C.eqs t=some ks)(sT: ∀a b,f a=f b→a=b)(hf: ∀a,np ks (f a)=true){cx cy:List AV}(hx:cx=f x)(hy:cy=f y):rH C t (.agg cx)∧rH C t (.agg cy)∧aft (.agg cx) (.agg cy) b:=by
 subst hx;subst hy;subst hb
 refine⟨?_,?_,f x,f y,rfl,rfl,?_⟩
 ·unfold rH;rw[hk];exact hf x
 ·unfold rH;rw[hk];exact hf y
 ·rw[decide_eq_true_eq];exact⟨fun e=>by rw[e],sT x y⟩
theorem A3: ∀{n:Nat} {l:List Int},l.length=n→np (List.replicate n (.int .i64)) (l.map an).flatten=true
 |0,[],_=>rfl
 |n+1,a::r,h=>by
  rw[List.replicate_succ]
  show(IntKind.i64==IntKind.i64&&np _ (r.map an).flatten)=true
  rw[A3 (by simpa using h)];rfl
theorem Kz: ∀{l m:List Int},(l.map an).flatten=(m.map an).flatten→l=m
 |[],[],_=>rfl
 |a::r,b::q,h=>by
  have:AV.v (.int .i64 a)::(r.map an).flatten=AV.v (.int .i64 b)::(q.map an).flatten:=h
  injection this with h1 h2
  injection h1 with h1
  injection h1 with _ h1
  rw[h1,Kz h2]
 |[],b::q,h=>by simp[an]at h
 |a::r,[],h=>by simp[an]at h
theorem UJ(hM:M= .al){n:Nat}{l k:List Int}{b:Bool}{u w:Unit}(hl:lW n l=some u)(jt:lW n k=some w)(hb:decide (l=k)=b){C:dj}{t:Nat}(hk:C.eqs t=some (List.replicate n (.int .i64))):rH C t (.ar n 1 (M.map an l))∧rH C t (.ar n 1 (M.map an k))∧aft (.ar n 1 (M.map an l)) (.ar n 1 (M.map an k)) b:=by
 subst hM;subst hb
 have h1:l.length=n:=by unfold lW at hl;split at hl;assumption;cases hl
 have h2:k.length=n:=by unfold lW at jt;split at jt;assumption;cases jt
 refine⟨?_,?_,_,_,rfl,rfl,?_⟩
 ·unfold rH;rw[hk];exact A3 h1
 ·unfold rH;rw[hk];exact A3 h2
 ·rw[decide_eq_true_eq];exact⟨fun e=>by rw[e],Kz⟩
end
theorem Ez(a b:Int)(h:an a=an b):a=b:=by
 injection h with h _
 injection h with h
 injection h
section
variable{α:Type}{M:Md}{I:Pr}{enc:α→List AV}
theorem ahT(hI:I=al){b n:Nat}{l l':List α}{x:α}(hx:aI b l x=some l')(hn:l.length=n):I.room n 1 b:=by
 subst hI;subst hn
 unfold aI at hx
 split at hx
 ·rename_i h;exact h
 ·cases hx
theorem ao1(hM:M= .al){b:Nat}{l':List α}{x:α}{row:List AV}(hx:aI b [] x=some l')(he:row=enc x):[row]=M.map enc l':=by
 subst hM;subst he
 unfold aI at hx
 split at hx
 ·cases hx;rfl
 ·cases hx
theorem ao_ok{C:dj}(hI:C.I=al)(hM:M= .al){b r:Nat}{l l':List α}{x:α}{row:List AV}(hx:aI b l x=some l')(he:row=enc x):goO r (M.ln l) b (M.map enc l) row C (M.map enc l') (M.ln l'):=by
 subst hM;subst he
 have hr:=ahT hI hx rfl
 unfold aI at hx
 split at hx
 ·cases hx
  refine⟨hr,?_,?_,?_⟩
  ·rw[hI];show(List.map _ _).length=l.length;rw[List.length_map]
  ·rw[hI];show _++_=List.map _ _;rw[List.map_append];rfl
  ·rw[hI];show(List.map _ _).length=(l++[x]).length;rw[List.length_map]
 ·cases hx
theorem rO{C:dj}(hI:C.I=al)(hM:M= .al){l l':List α}{k off r:Nat}{x y:α}{ys:List (List AV)}(hy:gK l k=some y)(hx:gg l k x=some l')(ho:off<(enc y).length)(he:bD (enc y) off [.sl r ys]=enc x):akZ C (M.map enc l) k k off off r ys (M.map enc l'):=by
 subst hM
 unfold gg at hx
 split at hx
 ·cases hx
  refine⟨rfl,rfl,enc y,?_,ho,?_⟩
  ·show(List.map enc l)[k]? =_
   rw[List.getElem?_map];unfold gK at hy;rw[hy];rfl
  ·rw[hI,he];show(List.map enc l).set k (enc x)=_;rw[←List.map_set];rfl
 ·cases hx
end
section
variable{α:Type}{M:Md}{I:Pr}{enc:α→List AV}
def lQ(n:Nat)(ys xs:List α):List α:=ys.take (min ys.length n)++xs.drop (min ys.length n)
def oK(n:Nat)(ys:List α):Int:=((min ys.length n:Nat):Int)
theorem fZ(hI:I=al)(hM:M= .al){ti:TI}{z:Nat}{n:Nat}{xs ys l:List α}{j:Int}(hl:lQ n ys xs=l)(hj:oK n ys=j)(hz:z=ti.size)(ho: ∀y,lf (enc y)=true)(he: ∀y,(enc y).length=ti.size):
  aky I ti z n (M.map enc xs) (M.map enc ys) (M.map enc l) j:=by
 subst hI;subst hM;subst hl;subst hj
 refine⟨hz,dz rfl ho ys,fun c hc=>?_,?_,?_⟩
 ·obtain⟨y,_,rfl⟩:=List.mem_map.1 hc;exact he y
 ·simp only[al,Md.al,List.length_map,oK];split<;>omega
 ·simp only[al,Md.al,lQ,oK,List.length_map]
  simp[List.map_take,List.map_drop]
  rw[List.take_of_length_le (l:=List.map enc xs) (by simp)]
theorem rN(hI:I=al)(hM:M= .al){z n:Nat}{cs:List AV}{l:List α}(h:chunks z n cs=l.map enc):I.chunk z n cs=M.map enc l:=by subst hI;subst hM;exact h
end
section
variable{α:Type}{M:Md}{I:Pr}{enc:α→List AV}
theorem Pa{c:List AV}(h:bZ c=true):NB [c] [c]:=⟨[c],⟨⟨af c,h⟩,trivial⟩,rfl⟩
theorem qm(hI:I=al){b:Nat}{x:α}{l:List α}(h:aI b [] x=some l):I.room 0 1 b:=by
 subst hI
 unfold aI at h
 split at h
 ·rename_i hr;simpa[al]using hr
 ·cases h
theorem xV(hI:I=al)(hM:M= .al){b:Nat}{x:α}{l:List α}{row:List AV}(h:aI b [] x=some l)(he:row=enc x):[row]=M.map enc l∧I.eR (M.map enc l)=M.ln l:=by
 subst hI;subst hM;subst he
 unfold aI at h
 split at h
 ·cases h;exact⟨rfl,rfl⟩
 ·cases h
theorem DR{C:dj}(hI:C.I=al)(hM:M= .al){b r:Nat}{x:α}{l l':List α}{row:List AV}(h:aI b l x=some l')(he:row=enc x):goO r (M.ln l) b (M.map enc l) row C (M.map enc l') (M.ln l'):=by
 subst hM;subst he
 unfold aI at h
 split at h
 ·rename_i hr
  cases h
  refine⟨?_,?_,?_,?_⟩
  ·rw[hI];exact hr
  ·rw[hI];simp[al,Md.al]
  ·rw[hI];simp[al,Md.al]
  ·rw[hI];simp[al,Md.al]
 ·cases h
theorem ahQ(hM:M= .al){r:Nat}(l:List α):AV.sl r ((M.map enc l).take (M.ln l))=AV.sl r (M.map enc l):=by rw[W1 hM]
end
section
variable{α:Type}{M:Md}{I:Pr}{enc:α→List AV}
theorem IT(hM:M= .al){l:List α}{n:Int}{x:α}(hx:gI l n=some x):0≤n∧(M.map enc l)[n.toNat]? =some (enc x):=
 let⟨h1,h2,_⟩:=ai (enc:=enc) hM hx rfl;⟨h1,h2⟩
def OF:List (List AV)→Bool
 |[]=>true
 |a::r=>bZ a&&OF r
theorem Jk: ∀{xs:List (List AV)},OF xs=true→wkL xs xs
 |[],_=>trivial
 |a::r,h=>by simp only[OF,Bool.and_eq_true]at h;exact⟨⟨af a,h.1⟩,Jk h.2⟩
theorem blL{xs:List (List AV)}(h:OF xs=true):NB xs xs:=⟨xs,Jk h,rfl⟩
def Dz(z:Nat):List (List AV)→Bool
 |[]=>true
 |a::r=>cS a.length z&&Dz z r
theorem xQ{z:Nat}: ∀{xs:List (List AV)},Dz z xs=true→ ∀l∈xs,l.length=z
 |[],_,l,hl=>by simp at hl
 |a::r,h,l,hl=>by
  simp only[Dz,Bool.and_eq_true]at h
  rcases List.mem_cons.1 hl with rfl|hl
  ·exact dg h.1
  ·exact xQ h.2 l hl
def aai(ti:TI)(xs ys:List (List AV)):Bool:=(lL ((xs.length+ys.length)*ti.bytes) 70368744177664&&lL (xs.length+ys.length) 70368744177664)&&((lL 1 ti.size&&dU ys)&&(Dz ti.size ys&&Dz ti.size xs))
theorem apL{C:dj}(hI:C.I=al){ti:TI}{xs ys zs:List (List AV)}(h:aai ti xs ys=true)(hz:xs++ys=zs):IS C ti xs ys zs:=by
 simp only[aai,Bool.and_eq_true,ye]at h
 obtain⟨⟨h1,h2⟩,⟨h3,h4⟩,h5,h6⟩:=h
 refine⟨⟨?_,by rw[ye];exact h3,h4,xQ h5⟩,xQ h6,?_⟩
 ·rw[hI];exact⟨h1,h2⟩
 ·rw[hI];exact hz
theorem TN(hI:I=al){xs:List (List AV)}{n:Nat}(h:xs.length=n):Int.ofNat (I.eR xs)=(n:Int):=by subst hI;subst h;rfl
theorem e9{x:Bool}{A B:Prop}(hx:x=true)(h:A):(x=true→A)∧(x=false→B):=⟨fun _=>h,fun e=>by rw[hx]at e;cases e⟩
theorem dk{x:Bool}{A B:Prop}(hx:x=false)(h:B):(x=true→A)∧(x=false→B):=⟨fun e=>(by rw[hx]at e;cases e),fun _=>h⟩
theorem jk(hI:I=al){a b:Int}(h:decide (a<b)=true):I.aV a b=true:=by subst hI;exact h
theorem eS(hI:I=al){a b:Int}(h:decide (a<b)=false):I.aV a b=false:=by subst hI;exact h
theorem aek(hI:I=al){a b c:Int}(h:IntKind.wrap .i64 (a+b)=c):AV.v (.int .i64 (I.wrap .i64 (I.add a b)))=AV.v (.int .i64 c):=by subst hI;subst h;rfl
theorem L1{W:St→(Ex→St→Prop)→Prop}{s:St}{Q:Ex→St→Prop}{N:Nat}(vd:List Nat)(vu:Option (List Fr))(vt:List (Nat×AV))(vb:List (Nat×Ob))(vg:Nat→Option Ob)(vn:Nat)(hk:wk s (qL s vd vu vt vb vg vn))
  (h: ∀R:St→Prop,(∀s',nw W N s' Q→R s')→W (qL s vd vu vt vb vg vn) (RM R Q)):nw W (N+1) s Q:= .inr ⟨_,hk,h _ fun _ hs=>hs⟩
end
end Ab
namespace Ab
open Go
set_option maxHeartbeats 100000000
set_option maxRecDepth 100000
structure aL where
 kind:Int
 name:ByteArray
 num:Int
 args:List Int
 deriving DecidableEq
instance:Inhabited aL:=⟨⟨0,⟨#[]⟩,0,[]⟩⟩
structure ae where
 head:ByteArray
 kids:Int
 ops:List aL
 result:Int
 deriving DecidableEq
instance:Inhabited ae:=⟨⟨⟨#[]⟩,0,[],0⟩⟩
structure aj where
 name:ByteArray
 arity:Int
 ag:List ae
 deriving DecidableEq
instance:Inhabited aj:=⟨⟨⟨#[]⟩,0,[]⟩⟩
structure ah where
 blocks:List aj
 deriving DecidableEq
instance:Inhabited ah:=⟨⟨[]⟩⟩
structure aP where
 kind:Int
 name:ByteArray
 num:Int
 deriving DecidableEq
instance:Inhabited aP:=⟨⟨0,⟨#[]⟩,0⟩⟩
def aZ(M:Md)(r:Nat)(x:aL):List AV:=[(vi x.kind),(vs x.name),(vi x.num),(.sl r (M.map an x.args))]
def az(M:Md)(r:Nat)(x:ae):List AV:=[(vs x.head),(vi x.kids),(.sl r (M.map (aZ M r) x.ops)),(vi x.result)]
def ao(M:Md)(r:Nat)(x:aj):List AV:=[(vs x.name),(vi x.arity),(.sl r (M.map (az M r) x.ag))]
def ba(M:Md)(r:Nat)(x:ah):List AV:=[(.sl r (M.map (ao M r) x.blocks))]
def bM(M:Md)(r:Nat)(x:aP):List AV:=[(vi x.kind),(vs x.name),(vi x.num)]
theorem db(M:Md)(r:Nat)(a b:aP)(h:bM M r a=bM M r b):a=b:=by
 cases a;cases b
 simp only[bM,List.cons.injEq,vi,vs,vb,AV.v.injEq,Value.int.injEq,Value.string.injEq,Value.bool.injEq,true_and,and_true]at h
 simp[h]
end Ab
namespace Ab
open Go
variable{P:Program}{E E':Env}{w w':World}
def CC(a:AV):Prop:= ∀r,1000000≤r→rY r a
def Env.o9(E:Env):Env:={E with dx:=fun b=>if E.dx b<1000000 then E.dx b else 0}
theorem HE{q:Nat}(h: ∀r,1000000≤r→q≠r):q<1000000:=by
 rcases Nat.lt_or_ge q 1000000 with h1|h1
 ·exact h1
 ·exact absurd rfl (h q h1)
theorem Ap{E:Env}{b q:Nat}(h:E.dx b=q)(hq:q<1000000):E.o9.dx b=q:=by
 show(if E.dx b<1000000 then E.dx b else 0)=q
 rw[if_pos (by omega),h]
theorem Cz.o9{av:AV}{x:Value}(h:Cz E av x):CC av→Cz E.o9 av x:=by
 have sub: ∀{cs:List AV} {q:Nat} {a:AV},(∀r,1000000≤r→AF r cs)→cs[q]? =some a→CC a:=fun h hq r hr=>nV (h r hr) _ _ hq
 have acr: ∀{xs:List (List AV)} {q:Nat} {a:AV},(∀r,1000000≤r→nh r xs)→xs.flatten[q]? =some a→CC a:=fun h hq r hr=>kI (h r hr) _ _ hq
 induction h with
 |any x=>exact fun _=> .any _
 |v x=>exact fun _=> .v _
 |nA q A c=>exact fun _=> .nA _ _ _
 |sl q xs z b o c u hp hc hm dV hz hr hi hs hu hq ih=>
  intro hn
  simp only[CC,rY]at hn
  exact .sl q xs z b o c u hp hc hm dV hz (Ap hr (HE fun r h=>(hn r h).1)) hi hs hu fun i a ha=>ih i a ha (acr (fun r h=>(hn r h).2) ha)
 |sX q t=>exact fun _=> .sX _ _
 |gs q t xs z b c e cells u hc hm h0 dV hz hr hb du ho fY hi hu hq ih=>
  intro hn
  simp only[CC,rY]at hn
  exact .gs q t xs z b c e cells u hc hm h0 dV hz (Ap hr (HE fun r h=>(hn r h).1)) hb du ho fY hi hu fun i a ha=>ih i a ha (acr (fun r h=>(hn r h).2) ha)
 |aO q cs off b o u hr hi hs hu hq ih=>
  intro hn
  simp only[CC,rY]at hn
  exact .aO q cs off b o u (fun i a ha=>Ap (hr i a ha) (HE fun r h=>(hn r h).1)) hi hs hu fun i a ha=>ih i a ha (sub (fun r h=>(hn r h).2) ha)
 |ptr k' off hl=>exact fun _=>Cz.ptr (E:=E.o9) k' off hl
 |ia k' n hl hn hc hm=>exact fun _=>Cz.ia (E:=E.o9) k' n hl hn hc hm
 |cG k' i off z hl=>exact fun _=>Cz.cG (E:=E.o9) k' i off z hl
 |mp k' hl=>exact fun _=>Cz.mp (E:=E.o9) k' hl
 |pV k' hl=>exact fun _=>Cz.pV (E:=E.o9) k' hl
 |ar n z xs ys hn hz hl hi hq ih=>intro h;simp only[CC,rY]at h;exact .ar n z xs ys hn hz hl hi fun q a y ha hy=>ih q a y ha hy (acr h ha)
 |fn f cs ys hl hq ih=>intro h;simp only[CC,rY]at h;exact .fn f cs ys hl fun q a y ha hy=>ih q a y ha hy (sub h ha)
 |bm f cs ys hl hi hq ih=>intro h;simp only[CC,rY]at h;exact .bm f cs ys hl hi fun q a y ha hy=>ih q a y ha hy (sub h ha)
 |nc q z xs x hz h ih=>
  intro hn
  simp only[CC,rY]at hn
  refine .nc q z xs x hz (ih fun r hr=>?_)
  simp only[rY]
  exact⟨(hn r hr).1,MW fun a ha=>by obtain⟨i,hi⟩:=List.getElem?_of_mem ha;exact kI (hn r hr).2 i a hi⟩
 |agg cs ys hl hq ih=>intro h;simp only[CC,rY]at h;exact .agg cs ys hl fun q a y ha hy=>ih q a y ha hy (sub h ha)
 |fT cs ys hl hq ih=>intro h;simp only[CC,rY]at h;exact .fT cs ys hl fun q a y ha hy=>ih q a y ha hy (sub h ha)
def aa0(args:List AV):Prop:= ∀r,1000000≤r→AF r args
theorem DV{g:Nat→Option Ob}{nx:Nat}(hG:wE E w g nx): ∀i,g i=none:=fun i=>by
 cases h:g i with
 |none=>rfl
 |some ob=>
  exfalso
  have h1:=hG.gx i ob h
  have key:E.own (E.m (.o i))= .key (.o i):=by
   cases ob with
   |box cs=>exact h1.2.choose_spec.choose_spec.2.1
   |arr z xs=>obtain⟨_,_,_,_,_,c,e,_,h2,_⟩:=h1;exact h2
   |ow p l xs=>exact h1.2.1
   |lp n t ps nI body st=>exact h1.2.1
  have:=hG.ng (E.m (.o i))
  rw[key]at this
  exact this rfl
theorem uE.lift{f:Nat}{args:List AV}{v:Value}(h: ∀(g:Nat→Option Ob),(∀i,g i=none)→ ∀nx,uE P true f args g nx fun r1 g1 zb=>I0 r1 (.v v)∧g1=g∧zb=nx)(Ug:aa0 args)(g:Nat→Option Ob)(nx:Nat):
  km P f args g nx (.v v) g nx:=by
 intro hi E w vs hG hl hv
 have hg:=DV hG
 have hG1:wE E.o9 w g nx:=⟨hG.heap,⟨hG.wf.aN,hG.wf.own,fun b o _ hr=>by
  exfalso
  have hr:1000000≤(if E.dx b<1000000 then E.dx b else 0):=hr
  split at hr<;>omega⟩,hG.nl,hG.gl,hG.own,hG.gk,fun i ob hh=>(by rw[hg i]at hh;cases hh),hG.ng⟩
 refine(h g hg nx hi E.o9 w vs hG1 (fun _ b o _=>by show(if E.dx b<1000000 then E.dx b else 0)<1000000;split<;>omega) hl fun q a y ha hy=>(hv q a y ha hy).o9 fun r hr=>nV (Ug r hr) q a ha).mono ?_
 rintro e w' ⟨r,g',gG,x,E1,⟨e1,e2,e3⟩,e4,I7,hE,hS,hc,hir,KP⟩
 subst e2;subst e3
 have hx:Cz E1 (.v v) x:=wL e1 hc
 have hx:=bG hx
 subst hx
 refine⟨x,{E1 with dx:=fun b=>if b<E.h.size then E.dx b else E1.dx b},e4,⟨I7.heap,⟨I7.wf.aN,I7.wf.own,fun b o hs hr=>?_⟩,I7.nl,I7.gl,I7.own,I7.gk,fun i ob hh=>(by rw[hg i]at hh;cases hh),I7.ng⟩,⟨hE.size,fun b o hs=>⟨(hE.aN b o hs).1,(hE.aN b o hs).2.1,by show(if b<E.h.size then E.dx b else E1.dx b)=E.dx b;rw[if_pos (hG.wf.aN b o hs)]⟩,hE.live,fun b hb hn=>?_⟩,hS,.v _,rfl,KP⟩
 ·have hr:1000000≤(if b<E.h.size then E.dx b else E1.dx b):=hr
  by_cases hb:b<E.h.size
  ·rw[if_pos hb]at hr
   have hk:=hE.bp b hb (hG.ng b)
   obtain⟨c,e,h1⟩:=hG.wf.fz b o ((hk.2.2.1 o).1 hs) hr
   exact⟨c,e,hk.2.1.trans h1⟩
  ·rw[if_neg hb]at hr;exact I7.wf.fz b o hs hr
 ·have hk:=hE.bp b hb hn
  exact⟨hk.1,hk.2.1,hk.2.2.1,by show(if b<E.h.size then E.dx b else E1.dx b)=E.dx b;rw[if_pos hb]⟩
theorem Ny{L:nO}(hL:bn PP L)(hm:PP.follows .mixedOrders=true){f:Nat}{fn:Func}{c:Code}(hf:PP.funcs[f]? =some fn)(hb:fn.body=some c){args:List AV}{g:Nat→Option Ob}{nx:Nat}{r:AV}{g':Nat→Option Ob}{gG:Nat}
  (ρ:Nat)(sh:List Nat)(tree:Nat→Tree)(dead:Nat→List Nat)(op:List Nat)(cl:Nat→Bool){T:Nat→Option FI}(hT:bk PP cl T)(iH: ∀k,cl k=true→ue T k=false)(fuel:Nat)(hd:cg cl tree c=true)(n:Nat)(hn:fn.ntmps=n)(I5:lL args.length n=true){rs:List ResultVar}(T6:fn.results.toList=rs){I:Pr}(hI:I=al)
  (hk: ∀call:oO,Any PP call→pY (m0 {I:=I,L:=L,ρ:=ρ,sh:=sh,tree:=tree,call:=call,op:=op,dead:=dead,cl:=cl,keys:=kN,eqs:=sf} T fuel 0) c (init n args g nx true) (post (m0 {I:=I,L:=L,ρ:=ρ,sh:=sh,tree:=tree,call:=call,op:=op,dead:=dead,cl:=cl,keys:=kN,eqs:=sf} T fuel 0) rs fun r1 g1 zb=>I0 r1 r∧g1=g'∧zb=gG)):uE PP true f args g nx fun r1 g1 zb=>I0 r1 r∧g1=g'∧zb=gG:=
 Qv hL hm hf hb true ρ sh tree dead op cl Io OY hT iH fuel hd n hn I5 T6 fun J call hJ hc _=>by rw[hJ,←hI];exact hk call hc
section
variable{I:Pr}(hI:I=al){M:Md}(hM:M= .al)
 include hM
theorem DX{r:Nat}(l:List Int):nh r (M.map an l):=by
 subst hM
 exact zf fun x hx=>by
  obtain⟨z,_,rfl⟩:=List.mem_map.1 hx
  simp[an,vi,AF,rY]
theorem Xv{r q:Nat}(h:q≠r)(l:List aL):nh r (M.map (aZ M q) l):=by
 have h1: ∀o:aL,AF r (aZ M q o):=fun o=>by
  unfold aZ
  simp only[AF,rY,vi,vs,and_true,true_and]
  exact⟨h,DX hM _⟩
 subst hM
 exact zf fun x hx=>by
  obtain⟨z,_,rfl⟩:=List.mem_map.1 hx
  exact h1 z
theorem H8{r q:Nat}(h:q≠r)(l:List ae):nh r (M.map (az M q) l):=by
 have h1: ∀o:ae,AF r (az M q o):=fun o=>by
  unfold az
  simp only[AF,rY,vi,vs,and_true,true_and]
  exact⟨h,Xv hM h _⟩
 subst hM
 exact zf fun x hx=>by
  obtain⟨z,_,rfl⟩:=List.mem_map.1 hx
  exact h1 z
theorem xY{r q:Nat}(h:q≠r)(l:List aj):nh r (M.map (ao M q) l):=by
 have h1: ∀o:aj,AF r (ao M q o):=fun o=>by
  unfold ao
  simp only[AF,rY,vi,vs,and_true,true_and]
  exact⟨h,H8 hM h _⟩
 subst hM
 exact zf fun x hx=>by
  obtain⟨z,_,rfl⟩:=List.mem_map.1 hx
  exact h1 z
theorem UZ{r:Nat}(l:List aj):O7 (.agg [.sl r (M.map (ao M r) l)]):=by
 subst hM
 refine⟨r,_,rfl,_,rfl,fun x hx=>?_⟩
 obtain⟨b,_,rfl⟩:=List.mem_map.1 hx
 refine⟨b.name,b.arity,_,rfl,_,rfl,fun x hx=>?_⟩
 obtain⟨c,_,rfl⟩:=List.mem_map.1 hx
 refine⟨c.head,c.kids,_,c.result,rfl,_,rfl,fun x hx=>?_⟩
 obtain⟨o,_,rfl⟩:=List.mem_map.1 hx
 refine⟨o.kind,o.name,o.num,_,rfl,_,rfl,fun x hx=>?_⟩
 obtain⟨z,_,rfl⟩:=List.mem_map.1 hx
 exact⟨z,rfl⟩
 include hI
theorem AE{r q:Nat}(h:cS q r=false)(l:List aj):I.nr r (M.map (ao M q) l):=by
 have:=xY hM (r:=r) (q:=q) (fun e=>by subst e;simp at h) l
 subst hI;exact this
theorem H9{r:Nat}(l:List Int):I.nr r (M.map an l):=by
 have:=DX hM (r:=r) l
 subst hI;exact this
end
theorem MV{I:Pr}(hI:I=al){r:Nat}{xs:List (List AV)}(h:nh r xs):I.nr r xs:=by subst hI;exact h
end Ab
namespace Ab
open Go
variable{P:Program}{W:World}{H:Type}{enc:TypeId×Value→H}{spare:Nat→Bool}
def qD(W:World):Env:={h:=W.heap,aN:=fun b o=> ∃v,aR W.heap b o=some v,dx:=fun _=>0,m:=fun _=>0,live:=fun _=>False,len:=fun _=>(0,0),own:=fun _=> .Tu}
theorem Qp(W:World):wE (qD W) W (fun _=>none) 0:=by
 refine⟨rfl,⟨fun b o h=>?_,fun b h=>absurd rfl h,fun b o _ h=>?_⟩,fun d h=>h,fun i=>⟨fun h=>h.elim,fun h=>absurd h (Nat.not_lt_zero _)⟩,fun b=>rfl,fun i ob h=>(by cases h),fun i ob h=>(by cases h),fun b h=>(by cases h)⟩
 ·obtain⟨v,hv⟩:=h
  have hv:aR W.heap b o=some v:=hv
  unfold aR at hv
  cases hb:W.heap[b]? with
  |none=>rw[hb]at hv;cases hv
  |some x=>exact(Array.getElem?_eq_some_iff.1 hb).1
 ·have h:1000000≤0:=h
  omega
def QF(W:World)(l:List AV)(cs:List Value):Prop:=cs.length=l.length∧ ∀(q:Nat) (a:AV) (v:Value),l[q]? =some a→cs[q]? =some v→Cz (qD W) a v
theorem M0{β:Type}{f:Nat→Option β}{n:Nat}{l:List β}(h:(List.range n).mapM f=some l):l.length=n∧ ∀i,i<n→f i=l[i]? :=
 ⟨by simpa using mapM_some_length h,fun i hi=>mapM_some_get h i i (by simp[hi])⟩
theorem CU{α:Type}{eA:α→List AV}{e t z:Nat}(ht:P.underlying t=some (.slice e))(hz:P.cellsOf e=z)(h0:0<z)(hlen: ∀x,(eA x).length=z)(afc: ∀x,bZ (eA x)=true)
  (he: ∀(n:Nat) (cs:List Value) (y:DataW H×List MemPlace),DataW.trod enc P W 0 spare true n e cs=some y→ ∃x:α,QF W (eA x) cs)
  {n:Nat}{cs:List Value}{y:DataW H×List MemPlace}(h:DataW.trod enc P W 0 spare true n t cs=some y): ∃(l:List α) (v:Value),cs=[v]∧Cz (qD W) (.sl 0 (l.map eA)) v:=by
 rcases DataW.trod_slice ht h with⟨rfl,_⟩|⟨a,len,cap,elems,rest,m,_,rfl,_,_,hlc,hcm,sn,xj,_⟩
 ·exact⟨[],_,rfl,.nA _ _ _⟩
 rw[hz]at xj
 cases len with
 |zero=>exact⟨[],_,rfl,.nA _ _ _⟩
 |succ len=>
 have row: ∀i,i<len+1→ ∃(x:α) (cs:List Value),QF W (eA x) cs∧cs.length=z∧ ∀q,q<z→W.cell? ((a.add (i*z)).add q)=cs[q]? :=fun i hi=>by
  have hg:=xj i hi
  have aU:i<elems.length:=by omega
  rw[List.getElem?_eq_getElem aU]at hg
  obtain⟨cs,h1,h2⟩:=Option.bind_eq_some_iff.1 hg
  obtain⟨x,hx⟩:=he _ _ _ h2
  unfold World.cells? at h1
  split at h1
  ·obtain⟨h3,h4⟩:=M0 h1
   exact⟨x,cs,hx,h3,h4⟩
  ·cases h1
 obtain⟨x0,cs0,hx0,hl0,hc0⟩:=row 0 (by omega)
 have aaw:a.spot=none:=by
  have h1:=hc0 0 h0
  rw[Nat.zero_mul,List.getElem?_eq_getElem (by omega)]at h1
  have h2:W.cell? a=some cs0[0]:=by simpa[Addr.add]using h1
  unfold World.cell? at h2
  split at h2
  ·split at h2
   ·cases h2
   ·rename_i h3;simpa using h3
  ·cases h2
 obtain⟨b,o,sp⟩:=a
 dsimp only at aaw
 subst aaw
 have rows: ∀k,k≤len+1→ ∃l:List α,l.length=k∧ ∀i x,l[i]? =some x→ ∀q a,(eA x)[q]? =some a→ ∃v,aR W.heap b (o+(i*z+q))=some v∧Cz (qD W) a v:=by
  intro k
  induction k with
  |zero=>intro _;exact⟨[],rfl,fun i x h=>by simp at h⟩
  |succ k ih=>
   intro hk
   obtain⟨l,h1,h2⟩:=ih (by omega)
   obtain⟨x,cs,hx,iH,hc⟩:=row k (by omega)
   refine⟨l++[x],by simp[h1],fun i x' hi q a ha=>?_⟩
   by_cases aU:i<k
   ·rw[List.getElem?_append_left (by omega)]at hi;exact h2 i x' hi q a ha
   ·have:i=k:=by have:=(List.getElem?_eq_some_iff.1 hi).1;simp at this;omega
    subst this
    rw[List.getElem?_append_right (by omega)]at hi
    simp[h1]at hi
    subst hi
    have hq:q<z:=by rw[←hlen x];exact(List.getElem?_eq_some_iff.1 ha).1
    have h3:=hc q hq
    rw[dX,dX,List.getElem?_eq_getElem (by omega),jr]at h3
    refine⟨_,by rw[←Nat.add_assoc];exact h3,hx.2 q a _ ha (List.getElem?_eq_getElem _)⟩
 obtain⟨l,hl,hq⟩:=rows (len+1) (Nat.le_refl _)
 refine⟨l,_,rfl,?_⟩
 have key: ∀q a,(l.map eA).flatten[q]? =some a→ ∃v,aR W.heap b (o+q)=some v∧Cz (qD W) a v:=fun q a ha=>by
  have fB:(l.map eA).flatten.length=l.length*z:=by rw[aD (z:=z) (fun x hx=>by obtain⟨y,_,rfl⟩:=List.mem_map.1 hx;exact hlen y)];simp
  have ao0:q<l.length*z:=by rw[←fB];exact(List.getElem?_eq_some_iff.1 ha).1
  have hi:q / z<l.length:=(Nat.div_lt_iff_lt_mul h0).2 ao0
  have hm:=Nat.mod_lt q h0
  have mE:(l.map eA)[q / z]? =some (eA l[q / z]):=by simp[hi]
  have hf:=dH (z:=z) (xs:=l.map eA) (i:=q / z) (fun x hx=>by obtain⟨y,_,rfl⟩:=List.mem_map.1 hx;exact hlen y) mE (q % z) hm
  rw[Nat.div_add_mod' q z]at hf
  rw[hf]at ha
  have:=hq (q / z) l[q / z] (List.getElem?_eq_getElem hi) (q % z) a ha
  rwa [Nat.div_add_mod' q z]at this
 have VE:(l.map eA).length=len+1:=by simp[hl]
 have hc:=Cz.sl (E:=qD W) 0 (l.map eA) z b o cap (fun q=>(aR W.heap b (o+q)).getD undef) (by rw[VE];omega) (by rw[VE];exact hlc) hcm h0 (fun x hx=>by obtain⟨y,_,rfl⟩:=List.mem_map.1 hx;exact hlen y) rfl
  (fun q a ha=>by
   obtain⟨i,hi⟩: ∃x∈l,a∈eA x:=by
    have:=List.mem_of_getElem? ha
    obtain⟨r,hr,Fz⟩:=List.mem_flatten.1 this
    obtain⟨x,hx,rfl⟩:=List.mem_map.1 hr
    exact⟨x,hx,Fz⟩
   obtain⟨j,hj⟩:=List.getElem?_of_mem hi.2
   exact bj (afc i) j a hj)
  (fun q a ha=>by obtain⟨v,hv,_⟩:=key q a ha;exact⟨v,hv⟩) (fun q a ha=>by obtain⟨v,hv,_⟩:=key q a ha;show aR W.heap b (o+q)=_;rw[hv];rfl) (fun q a ha=>by obtain⟨v,hv,hc⟩:=key q a ha;rw[hv];exact hc)
 rw[VE]at hc
 exact hc
set_option maxRecDepth 100000
open Go.Proofs
theorem open_int{n:Nat}{cs:List Value}{y:DataW H×List MemPlace}(h:DataW.trod enc PP W 0 spare true n 3 cs=some y): ∃z:Int,cs=[.int .i64 z]:=by
 obtain⟨z,h1,_⟩:=DataW.trod_int Tryz.underlying3 h
 exact⟨z,h1⟩
theorem DS{n:Nat}{cs:List Value}{y:DataW H×List MemPlace}(h:DataW.trod enc PP W 0 spare true n 9 cs=some y): ∃s:ByteArray,cs=[.string s]:=by
 obtain⟨z,h1,_⟩:=DataW.trod_string Tryz.underlying9 h
 exact⟨z,h1⟩
theorem Qw:PP.cellsOf 3=1:=by kernel_rfl
theorem agx:PP.cellsOf 9=1:=by kernel_rfl
theorem akD:PP.cellsOf 30=1:=by kernel_rfl
theorem akB:PP.cellsOf 59=1:=by kernel_rfl
theorem akC:PP.cellsOf 55=1:=by kernel_rfl
theorem akF:PP.cellsOf 22=1:=by kernel_rfl
theorem aaT:PP.cellsOf 64=4:=by kernel_rfl
theorem aaU:PP.cellsOf 61=4:=by kernel_rfl
theorem aaV:PP.cellsOf 57=3:=by kernel_rfl
theorem akE:PP.cellsOf 24=1:=by kernel_rfl
theorem Q2{fs:Array Field}{cs:List Value}{m:Nat}{xs:List (DataW H×List MemPlace)}(hf: ∀(i:Nat) (f:Field),fs[i]? =some f→DataW.trod enc PP W 0 spare true m f.type ((cs.drop f.offset).take (PP.cellsOf f.type))=xs[i]?)
  {i t o k:Nat}{f:Field}{x:DataW H×List MemPlace}(h:fs[i]? =some f)(ht:f.type=t)(ho:f.offset=o)(hc:PP.cellsOf t=k)(hx:xs[i]? =some x):DataW.trod enc PP W 0 spare true m t ((cs.drop o).take k)=some x:=by
 have:=hf i f h
 rw[ht,ho,hc,hx]at this
 exact this
theorem rowc{l:List AV}{cs:List Value}(hl:cs.length=l.length)(h: ∀(q:Nat) (a:AV) (v:Value),l[q]? =some a→cs[q]? =some v→Cz (qD W) a v):QF W l cs:=⟨hl,h⟩
theorem Xt{n:Nat}{cs:List Value}{y:DataW H×List MemPlace}(h:DataW.trod enc PP W 0 spare true n 64 cs=some y): ∃x:aL,QF W (aZ .al 0 x) cs:=by
 obtain⟨xs,m,_,_,hl,hn,hf⟩:=DataW.trod_struct Tryz.underlying64 h
 rw[aaT]at hl
 match cs,hl with
 |[a,b,c,d],_=>
  match xs,hn with
  |[x0,x1,x2,x3],_=>
   have f0:=Q2 hf (i:=0) (t:=3) (o:=0) rfl rfl rfl Qw rfl
   have f1:=Q2 hf (i:=1) (t:=9) (o:=1) rfl rfl rfl agx rfl
   have f2:=Q2 hf (i:=2) (t:=3) (o:=2) rfl rfl rfl Qw rfl
   have f3:=Q2 hf (i:=3) (t:=30) (o:=3) rfl rfl rfl akD rfl
   obtain⟨k,e0⟩:=open_int f0
   obtain⟨s,e1⟩:=DS f1
   obtain⟨z,e2⟩:=open_int f2
   obtain⟨l,v,e3,hc⟩:=CU (eA:=an) Tryz.underlying30 Qw (by decide) (fun _=>rfl) (fun _=>rfl) (fun n cs y h=>by
    obtain⟨z,rfl⟩:=open_int h
    exact⟨z,rfl,fun q a v ha hv=>by
     match q,ha,hv with
     |0,ha,hv=>cases ha;cases hv;exact .v _⟩) f3
   simp only[List.drop_zero,List.drop_succ_cons,List.take_succ_cons,List.take_zero,List.cons.injEq,and_true]at e0 e1 e2 e3
   subst e0;subst e1;subst e2;subst e3
   refine⟨⟨k,s,z,l⟩,rfl,fun q a v ha hv=>?_⟩
   match q,ha,hv with
   |0,ha,hv=>cases ha;cases hv;exact .v _
   |1,ha,hv=>cases ha;cases hv;exact .v _
   |2,ha,hv=>cases ha;cases hv;exact .v _
   |3,ha,hv=>cases ha;cases hv;exact hc
theorem J7{n:Nat}{cs:List Value}{y:DataW H×List MemPlace}(h:DataW.trod enc PP W 0 spare true n 61 cs=some y): ∃x:ae,QF W (az .al 0 x) cs:=by
 obtain⟨xs,m,_,_,hl,hn,hf⟩:=DataW.trod_struct Tryz.underlying61 h
 rw[aaU]at hl
 match cs,hl with
 |[a,b,c,d],_=>
  match xs,hn with
  |[x0,x1,x2,x3],_=>
   have f0:=Q2 hf (i:=0) (t:=9) (o:=0) rfl rfl rfl agx rfl
   have f1:=Q2 hf (i:=1) (t:=3) (o:=1) rfl rfl rfl Qw rfl
   have f2:=Q2 hf (i:=2) (t:=59) (o:=2) rfl rfl rfl akB rfl
   have f3:=Q2 hf (i:=3) (t:=3) (o:=3) rfl rfl rfl Qw rfl
   obtain⟨s,e0⟩:=DS f0
   obtain⟨k,e1⟩:=open_int f1
   obtain⟨z,e3⟩:=open_int f3
   obtain⟨l,v,e2,hc⟩:=CU (eA:=aZ .al 0) Tryz.underlying59 aaT (by decide) (fun _=>rfl) (fun _=>rfl) (fun n cs y h=>Xt h) f2
   simp only[List.drop_zero,List.drop_succ_cons,List.take_succ_cons,List.take_zero,List.cons.injEq,and_true]at e0 e1 e2 e3
   subst e0;subst e1;subst e2;subst e3
   refine⟨⟨s,k,l,z⟩,rfl,fun q a v ha hv=>?_⟩
   match q,ha,hv with
   |0,ha,hv=>cases ha;cases hv;exact .v _
   |1,ha,hv=>cases ha;cases hv;exact .v _
   |2,ha,hv=>cases ha;cases hv;exact hc
   |3,ha,hv=>cases ha;cases hv;exact .v _
theorem MU{n:Nat}{cs:List Value}{y:DataW H×List MemPlace}(h:DataW.trod enc PP W 0 spare true n 57 cs=some y): ∃x:aj,QF W (ao .al 0 x) cs:=by
 obtain⟨xs,m,_,_,hl,hn,hf⟩:=DataW.trod_struct Tryz.underlying57 h
 rw[aaV]at hl
 match cs,hl with
 |[a,b,c],_=>
  match xs,hn with
  |[x0,x1,x2],_=>
   have f0:=Q2 hf (i:=0) (t:=9) (o:=0) rfl rfl rfl agx rfl
   have f1:=Q2 hf (i:=1) (t:=3) (o:=1) rfl rfl rfl Qw rfl
   have f2:=Q2 hf (i:=2) (t:=55) (o:=2) rfl rfl rfl akC rfl
   obtain⟨s,e0⟩:=DS f0
   obtain⟨k,e1⟩:=open_int f1
   obtain⟨l,v,e2,hc⟩:=CU (eA:=az .al 0) Tryz.underlying55 aaU (by decide) (fun _=>rfl) (fun _=>rfl) (fun n cs y h=>J7 h) f2
   simp only[List.drop_zero,List.drop_succ_cons,List.take_succ_cons,List.take_zero,List.cons.injEq,and_true]at e0 e1 e2
   subst e0;subst e1;subst e2
   refine⟨⟨s,k,l⟩,rfl,fun q a v ha hv=>?_⟩
   match q,ha,hv with
   |0,ha,hv=>cases ha;cases hv;exact .v _
   |1,ha,hv=>cases ha;cases hv;exact .v _
   |2,ha,hv=>cases ha;cases hv;exact hc
theorem P0{n:Nat}{cs:List Value}{y:DataW H×List MemPlace}(h:DataW.trod enc PP W 0 spare true n 24 cs=some y): ∃(c:ah) (v:Value),cs=[v]∧Cz (qD W) (.sl 0 (c.blocks.map (ao .al 0))) v:=by
 obtain⟨xs,m,_,_,hl,hn,hf⟩:=DataW.trod_struct Tryz.underlying24 h
 rw[akE]at hl
 match cs,hl with
 |[a],_=>
  match xs,hn with
  |[x0],_=>
   have f0:=Q2 hf (i:=0) (t:=22) (o:=0) rfl rfl rfl akF rfl
   obtain⟨l,v,e0,hc⟩:=CU (eA:=ao .al 0) Tryz.underlying22 aaV (by decide) (fun _=>rfl) (fun _=>rfl) (fun n cs y h=>MU h) f0
   simp only[List.drop_zero,List.take_succ_cons,List.take_zero,List.cons.injEq,and_true]at e0
   subst e0
   exact⟨⟨l⟩,a,rfl,hc⟩
end Ab
namespace Ab
open Go Go.Proofs Go.Proofs.YtcdinjhcnhepeaaGreatDoor
open Go.ChangeShapes Go.WideShapes Go.ChangeAt Go.RowKit
set_option maxRecDepth 100000
theorem laidOut:laidOutB Tryz.prog=true:=by kernel_rfl
theorem ahU:Tryz.prog.readableRec 24=true:=by kernel_rfl
theorem ahS:(24:TypeId)<Tryz.prog.types.size:=of_decide_eq_true (by kernel_rfl)
theorem anO:ownKnob Tryz.prog.godebug=none:=by kernel_rfl
def Vh(f:FuncId):Prop:= ∀(W:World) (v:Value) (c:ah),Cz (qD W) (.agg (ba .al 0 c)) v→Calls Tryz.prog f #[v] W fun e W'=>e= .returned (.bool true)∧bU W W'∧iz W W'
theorem lawC_of{f:FuncId}(h: ∀c:ah,km PP f [.agg (ba .al 0 c)] (fun _=>none) 0 (.v (.bool true)) (fun _=>none) 0):Vh f:=fun W v c hv=>by
 refine(h c rfl (qD W) W [v] (Qp W) rfl (fun q a y ha hy=>by
  match q,ha,hy with
  |0,ha,hy=>cases ha;cases hy;exact hv)).mono ?_
 rintro e W' ⟨x,E',he,hG,hE,hS,hc,_,hA⟩
 have:=bG hc
 subst this
 exact⟨he,hA,hS⟩
theorem amw{f:FuncId}{fn:Func}{s:ChangeSpec}(hp:fn.params= #[24])(hr:fn.resultTypes= #[4])(hv:s.vars=[])(hs: ∀(H:Type) (d:DataW H),s.fn H [d]={results:=[.lit (.bool true)],args:=[d]})(Nm:Vh f)
  (H:Type)(enc:TypeId×Value→H)(W:World)(args:Array Value)(ds gs:List (DataW H))(before:List MemPlace)
  (base:Nat)(nF: ∀(j:Nat) t v,fn.params[j]? =some t→args[j]? =some v→Value.okWide Tryz.prog W .any base t v)(hW:DataW.Whole enc Tryz.prog fn.params.toList s.vars false W args.toList ds gs before):
  Calls Tryz.prog f args W fun e W'=> ∃v,e= .returned v∧s.post enc Tryz.prog fn false true false false W args v W':=by
 have hW':=hW
 obtain⟨p,q,hA0,hV,rfl,hfz,X1⟩:=hW
 have hA:DataW.TrodAll enc Tryz.prog W 0 (fun _=>true) true fn.params.toList args.toList ds p:=hA0
 rw[hp]at hA
 rw[hv]at hV
 obtain⟨v0,d0,rfl,rfl,h0⟩:=trodAll_one hA
 obtain⟨rfl,rfl⟩:=trodVars_none hV
 obtain⟨n,hn⟩:=h0
 obtain⟨c,x,I6,Np⟩:=P0 hn
 have nF:=nF 0 24 v0 (by rw[hp];rfl) rfl
 unfold Value.okWide at nF
 rw[Tryz.underlying24]at nF
 obtain⟨cs,rfl,_,_⟩:=nF
 have I6:cs.toList=[x]:=by simpa[Value.cells]using I6
 have Np:Cz (qD W) (.agg (ba .al 0 c)) (.agg cs):=by
  have:cs=[x].toArray:=by rw[←I6]
  rw[this]
  exact .agg _ [x] rfl fun q a y ha hy=>by
   match q,ha,hy with
   |0,ha,hy=>cases ha;cases hy;exact Np
 refine(Nm W (.agg cs) c Np).mono fun e W' ⟨he,hA,hS⟩=>⟨_,he,?_⟩
 have aU: ∀x∈p,x.block<W.heap.size:=fun x hx=>hW'.lt x (by simpa using hx)
 have zu:(s.fn H ([d0]++[])).results=[.lit (.bool true)]:=by rw[List.append_nil,hs]
 have Lw:(s.fn H ([d0]++[])).args=[d0]:=by rw[List.append_nil,hs]
 have hs3:(s.fn H ([d0]++[])).vars=[]:=by rw[List.append_nil,hs]
 refine⟨[d0],[],_,[],p,[],hW',?_,?_,?_,?_,fun h=>(by cases h)⟩
 ·rw[hr,zu]
  exact trodAll_mk1 (shut_bool Tryz.underlying4 _)
 ·rw[hp,Lw]
  refine trodAll_mk1 (WideElems.Trod_stays laidOut ahU ahS ⟨n,hn⟩ (fun x hx=>?_) fun x hx=>by simpa using aU x hx)
  have hb:=hA x.block (aU x hx)
  cases x with
  |cell b off=>show W'.cell? _=W.cell? _;unfold World.cell?;rw[show W'.heap[b]? =W.heap[b]? from hb]
  |map b=>exact hb
 ·rw[hv,hs3];rfl
 ·exact World.keptBut_mono (fun _ h=>h.elim) (World.keptBut_none_iff.2 ⟨hS.1,hS.2.2,hA⟩)
end Ab
namespace Ab
open Go
section
variable{α:Type}{enc:α→List AV}{I:Pr}{M:Md}
def agF(m:Nat)(h:Int)(l:List α):Option Nat:=if 0≤h∧h≤m∧l.length=m then some h.toNat else none
theorem agE(hI:I=al)(hM:M= .al){m j:Nat}{h:Int}{l:List α}(hx:agF m h l=some j)(hm:m≤1048576):0=0∧I.eR (M.map enc l)=m∧m≤1048576∧I.nq 0 h m∧h.toNat=j:=by
 subst hI;subst hM
 unfold agF at hx
 split at hx
 ·rename_i hc
  cases hx
  refine⟨rfl,by show(l.map enc).length=m;simpa using hc.2.2,hm,?_,rfl⟩
  exact⟨by omega,hc.1,by omega⟩
 ·cases hx
theorem RB{r:Nat}(hM:M= .al)(l:List α)(k:Nat):AV.sl r ((M.map enc l).take k)=AV.sl r (M.map enc (l.take k)):=by
 subst hM
 show AV.sl r ((l.map enc).take k)=AV.sl r ((l.take k).map enc)
 rw[List.map_take]
end
theorem Gb{s:St}{K:St→Prop}(vu:Option (List Fr))(vt:List (Nat×AV))(vb:List (Nat×Ob))(vg:Nat→Option Ob)(vn:Nat)(hk:wk s (oM s vu vt vb vg vn))(h:K (oM s vu vt vb vg vn)): ∃s2,wk s s2∧K s2:=⟨_,hk,h⟩
end Ab
namespace Ab
open Go
section
variable{α β S R:Type}
theorem fin{P:Prop}(k:P:=by cbv;all_goals(repeat' apply And.intro);all_goals first|trivial|rfl|exact aE (by assumption)):P:=k
theorem bN{P Q:Prop}(f:P→Q)(k:P:=by cbv;all_goals(repeat' apply And.intro);all_goals first|trivial|rfl|exact aE (by assumption)):Q:=f k
theorem si{c:Bool}{A B:Option R}{v:R}{G1 G2:Prop}(h:(bif c then A else B)=some v)(h1:A=some v→G1)(h2:B=some v→G2):(c=true→G1)∧(c=false→G2):=CR h rfl h1 h2
theorem bB{A B:Prop}(k:B:=by(repeat' apply And.intro)<;>first|trivial|rfl|exact aE (by assumption)):A∨B:= .inr k
def rg(a:Nat):Nat→List Nat
 |0=>[]
 |n+1=>a::rg (a+1) n
def on:List Nat→Tree→Tree
 |[],t=>t
 |i::l,t=> .one i (on l t)
theorem lp{W:St→(Ex→St→Prop)→Prop}{s:St}{Q:Ex→St→Prop}{body:(S→Option R)→S→Option R}{n:Nat}{Am:S}{v:R}(h:iter body n Am=some v)(vt:S→List (Nat×AV))(vb:S→List (Nat×Ob))
  (hr: ∀(R:St→Prop) (m:Nat),(∀(st:S) (s':St),iter body m st=some v→wk s' (oM s none (vt st) (vb st) s.g s.nx)→R s')→ ∀st:S,body (iter body m) st=some v→
   W (oM s none (vt st) (vb st) s.g s.nx) (RM R Q))
  (h0:wk s (oM s none (vt Am) (vb Am) s.g s.nx):=by cbv;all_goals(repeat' apply And.intro);all_goals first|trivial|rfl|exact aE (by assumption)):NV W s Q:=step_loop h none vt vb (fun _=>s.g) (fun _=>s.nx) h0 hr
theorem lpD{W:St→(Ex→St→Prop)→Prop}{s:St}{Q:Ex→St→Prop}{body:(S→Option R)→S→Option R}{n:Nat}{Am:S}{v:R}(h:iter body n Am=some v)(vd:List Nat)(vt:S→List (Nat×AV))(vb:S→List (Nat×Ob))
  (hr: ∀(R:St→Prop) (m:Nat),(∀(st:S) (s':St),iter body m st=some v→wk s' (qL s vd none (vt st) (vb st) s.g s.nx)→R s')→ ∀st:S,body (iter body m) st=some v→
   W (qL s vd none (vt st) (vb st) s.g s.nx) (RM R Q))
  (h0:wk s (qL s vd none (vt Am) (vb Am) s.g s.nx):=by cbv;all_goals(repeat' apply And.intro);all_goals first|trivial|rfl|exact aE (by assumption)):nw W n s Q:=L3 h vd none vt vb (fun _=>s.g) (fun _=>s.nx) h0 hr
theorem CS{W:St→(Ex→St→Prop)→Prop}{s:St}{Q:Ex→St→Prop}{N:Nat}(vd:List Nat)(vt:List (Nat×AV))
  (h: ∀R:St→Prop,(∀s',nw W N s' Q→R s')→W (qL s vd none vt [] s.g s.nx) (RM R Q))
  (hk:wk s (qL s vd none vt [] s.g s.nx):=by cbv;all_goals(repeat' apply And.intro);all_goals first|trivial|rfl|exact aE (by assumption)|exact aek (by assumption) (by decide)):nw W (N+1) s Q:=L1 vd none vt [] s.g s.nx hk h
def bO(f:Nat)(args:List AV)(r:AV)(g:Nat→Option Ob)(nx:Nat):Prop:=nP PP f∧km PP f args g nx r g nx
theorem us{call:oO}(hc:Any PP call){ρ f:Nat}{args:List AV}{r:AV}{g:Nat→Option Ob}{nx:Nat}(e:bO f args r g nx):call ρ f args g nx r g nx:=hc.use e.1 e.2
theorem bO.wk{f:Nat}{args args':List AV}{r:AV}{g:Nat→Option Ob}{nx:Nat}(e:bO f args' r g nx)(hw:LO args args')(hi:bZ args'=true:=by rfl):bO f args r g nx:=⟨e.1,e.2.amk hw hi⟩
theorem cr{f:Nat}{fn:Func}(hf:PP.funcs[f]? =some fn)(c:Code){args:List AV}{g:Nat→Option Ob}{nx:Nat}{r:AV}(ρ:Nat)(tree:Nat→Tree)(dead:Nat→List Nat)(op:List Nat)(n:Nat)(hn:fn.ntmps=n)(rs:List ResultVar){I:Pr}(hI:I=al)
  (hk: ∀call:oO,Any PP call→pY (m0 {I:=I,L:=L,ρ:=ρ,sh:=[],tree:=tree,call:=call,op:=op,dead:=dead,cl:=fD,keys:=kN,eqs:=sf} (fun _=>none) 0 0) c (init n args g nx) (post (m0 {I:=I,L:=L,ρ:=ρ,sh:=[],tree:=tree,call:=call,op:=op,dead:=dead,cl:=fD,keys:=kN,eqs:=sf} (fun _=>none) 0 0) rs fun r1 g1 zb=>I0 r1 r∧g1=g∧zb=nx))
  (hb:fn.body=some c:=by kernel_rfl)(hd:cg fD tree c=true:=by kernel_rfl)(T6:fn.results.toList=rs:=by kernel_rfl)(I5:lL args.length n=true:=by rfl)(hr:cm r=true:=by rfl)(hm:(fn.name== "runtime.NumGoroutine")=false:=by kernel_rfl):bO f args r g nx:=
 ⟨enters hf hb hm,A8 lay mixed hf hb hr ρ [] tree dead op fD (tF PP fD) (cl0 fD) 0 hd n hn I5 T6 hI hk⟩
theorem yp{f:Nat}{fn:Func}(hf:PP.funcs[f]? =some fn)(c:Code){args:List AV}{g:Nat→Option Ob}{nx:Nat}{r:AV}(ρ:Nat)(tree:Nat→Tree)(dead:Nat→List Nat)(op:List Nat)(n:Nat)(hn:fn.ntmps=n)(rs:List ResultVar){I:Pr}(hI:I=al){T:Nat→Option FI}(hT:bk PP fD T)(fuel:Nat)
  (hk: ∀call:oO,Any PP call→pY (m0 {I:=I,L:=L,ρ:=ρ,sh:=[],tree:=tree,call:=call,op:=op,dead:=dead,cl:=fD,keys:=kN,eqs:=sf} T fuel 0) c (init n args g nx) (post (m0 {I:=I,L:=L,ρ:=ρ,sh:=[],tree:=tree,call:=call,op:=op,dead:=dead,cl:=fD,keys:=kN,eqs:=sf} T fuel 0) rs fun r1 g1 zb=>I0 r1 r∧g1=g∧zb=nx))
  (hb:fn.body=some c:=by kernel_rfl)(hd:cg fD tree c=true:=by kernel_rfl)(T6:fn.results.toList=rs:=by kernel_rfl)(I5:lL args.length n=true:=by rfl)(hr:cm r=true:=by rfl)(hm:(fn.name== "runtime.NumGoroutine")=false:=by kernel_rfl)
  (iH: ∀k,fD k=true→ue T k=false:=by repeat'(first|exact cl0 fD|refine IM (by kernel_rfl) ?_)):bO f args r g nx:=
 ⟨enters hf hb hm,A8 lay mixed hf hb hr ρ [] tree dead op fD hT iH fuel hd n hn I5 T6 hI hk⟩
end
section
variable{α:Type}{enc:α→List AV}{M:Md}
theorem cX{r:Nat}{l0 l:List α}{u:Unit}(hM:M= .al)(h:dM (M.ln l0) l=some u){X:List (List AV)}(hX:X=List.take (M.ln l0) (M.map enc l):=by first|rfl|rw[List.take.eq_def]):AV.sl r X=AV.sl r (M.map enc l):=by
 rw[hX];exact XF hM h
theorem tkE{r:Nat}(hM:M= .al)(l:List α){X:List (List AV)}(hX:X=List.take (M.ln l) (M.map enc l):=by first|rfl|rw[List.take.eq_def]):AV.sl r X=AV.sl r (M.map enc l):=by
 rw[hX];exact ahQ hM l
theorem amx{r:Nat}(hM:M= .al)(l:List α)(k:Nat){X:List (List AV)}(hX:X=List.take k (M.map enc l):=by first|rfl|rw[List.take.eq_def]):AV.sl r X=AV.sl r (M.map enc (l.take k)):=by
 rw[hX];exact RB hM l k
end
end Ab
namespace Ab
open Go
set_option maxHeartbeats 100000000
set_option maxRecDepth 100000
def Fs(I:Pr)(M:Md)(n:Nat)(br:ae)(m:Nat):Nat→List Bool→Int→Option (List Bool)
 |0=>fun _ _=>none
 |k+1=>fun l x=>
  (gN m x).bind fun k1=>
  (gK l k1).bind fun x2=>
  bif x2 then some l else
  (gg l k1 true).bind fun l3=>
  (gI br.ops x).bind fun x4=>
  bif (I.aJ x4.kind 3)then
   (some (aq x4.args)).bind fun n5=>
   iter (fun(self:List Bool×Int→Option (List Bool)) st=>match st with
    |(l6,z7)=>
     bif (I.aV z7 n5)then
      (gI x4.args z7).bind fun x8=>
      (Fs I M n br m k l6 x8).bind fun l9=>
      self (l9,(I.wrap .i64 (I.add z7 1)))
     else some l6) n (l3,0)
  else some l3
def nz(I:Pr)(M:Md)(n:Nat)(a0:List Int):Option (List Int):=
 (CA 8 [] a0).bind fun l1=>
 some l1
def eF:ByteArray:=⟨#[111,110,101,115]⟩
def rF:ByteArray:=⟨#[109,111,114,101]⟩
def aet(k:ByteArray):List aL:=[⟨3,⟨#[97]⟩,0,[]⟩,⟨5,k,0,[]⟩,⟨3,⟨#[99,111,110,115]⟩,0,[0,1]⟩]
def Ch(k:ByteArray):aj:=⟨k,0,[⟨⟨#[]⟩,0,aet k,2⟩]⟩
def tX(I:Pr)(M:Md)(n:Nat):Option ah:=some ⟨[Ch eF,Ch rF]⟩
def gZ(I:Pr)(M:Md)(n:Nat)(a0:aL):Option Bool:=
 (some (la a0.name)).bind fun n1=>
 (some (aq a0.args)).bind fun n2=>
 some (I.pick (I.aV 40 n1) true (I.aV 9 n2))
def ku(I:Pr)(M:Md)(n:Nat)(a0:List aL)(n1:Int)(k:Int→Option Int)(self:Int→Option Int)(z2:Int):Option Int:=
 bif (I.aV z2 n1)then
  (gI a0 z2).bind fun x3=>
  (gZ I M n x3).bind fun y4=>
  bif y4 then
  some z2
  else
  self (I.wrap .i64 (I.add z2 1))
 else
  k z2
def mb(I:Pr)(M:Md)(n:Nat)(a0:List aL):Option Int:=
 (some (aq a0)).bind fun n1=>
 iter (ku I M n a0 n1 (fun z5=>
  some (-1))) n 0
def eM(I:Pr)(M:Md)(n:Nat)(a0:List aL):Option Bool:=
 (mb I M n a0).bind fun y1=>
 some (I.pK 0 y1)
def kM(I:Pr)(M:Md)(n:Nat)(a0:ae):Option Bool:=
 (some (la a0.head)).bind fun n1=>
 (some (aq a0.ops)).bind fun n2=>
 (cJ (I.pick (I.aV 40 n1) true (I.aV 70 n2)) false (eM I M n a0.ops) default).bind fun y3=>
 some (I.pick (I.pick (I.aV 40 n1) true (I.aV 70 n2)) true y3)
def gT(I:Pr)(M:Md)(n:Nat)(a0:List ae)(n1:Int)(k:Int→Option Int)(self:Int→Option Int)(z2:Int):Option Int:=
 bif (I.aV z2 n1)then
  (gI a0 z2).bind fun x3=>
  (kM I M n x3).bind fun y4=>
  bif y4 then
  some z2
  else
  self (I.wrap .i64 (I.add z2 1))
 else
  k z2
def iS(I:Pr)(M:Md)(n:Nat)(a0:List ae):Option Int:=
 (some (aq a0)).bind fun n1=>
 iter (gT I M n a0 n1 (fun z5=>
  some (-1))) n 0
def dE(I:Pr)(M:Md)(n:Nat)(a0:List ae):Option Bool:=
 (iS I M n a0).bind fun y1=>
 some (I.pK 0 y1)
def oh(I:Pr)(M:Md)(n:Nat)(a0:aj):Option Bool:=
 (some (la a0.name)).bind fun n1=>
 (some (aq a0.ag)).bind fun n2=>
 (cJ (I.pick (I.aV 40 n1) true (I.aV 9 n2)) false (dE I M n a0.ag) default).bind fun y3=>
 some (I.pick (I.pick (I.aV 40 n1) true (I.aV 9 n2)) true y3)
def iD(I:Pr)(M:Md)(n:Nat)(a0:List aj)(n1:Int)(k:Int→Option Int)(self:Int→Option Int)(z2:Int):Option Int:=
 bif (I.aV z2 n1)then
  (gI a0 z2).bind fun x3=>
  (oh I M n x3).bind fun y4=>
  bif y4 then
  some z2
  else
  self (I.wrap .i64 (I.add z2 1))
 else
  k z2
def jP(I:Pr)(M:Md)(n:Nat)(a0:List aj):Option Int:=
 (some (aq a0)).bind fun n1=>
 iter (iD I M n a0 n1 (fun z5=>
  some (-1))) n 0
def dP(I:Pr)(M:Md)(n:Nat)(a0:List aj):Option Bool:=
 (jP I M n a0).bind fun y1=>
 some (I.pK 0 y1)
def sP(I:Pr)(M:Md)(n:Nat)(a0:ah):Option Bool:=
 (some (aq a0.blocks)).bind fun n1=>
 (cJ (I.aV 16 n1) false (dP I M n a0.blocks) default).bind fun y2=>
 some (I.pick (I.aV 16 n1) true y2)
def bH(I:Pr)(M:Md)(n:Nat)(a0:Int)(a1:ByteArray)(a2:Int)(a3:List Int):Option aL:=
 some (⟨a0,a1,a2,a3⟩:aL)
def cY(I:Pr)(M:Md)(n:Nat)(a0:Int)(a1:List aL):Option (List ae):=
 some ([(⟨⟨#[]⟩,0,a1,a0⟩:ae)])
def cp(I:Pr)(M:Md)(n:Nat)(a0:ByteArray)(a1:Int)(a2:List ae):Option aj:=
 some (⟨a0,a1,a2⟩:aj)
def qw(I:Pr)(M:Md)(n:Nat)(a0:List aj):Option ah:=
 some (⟨a0⟩:ah)
def pO(I:Pr)(M:Md)(n:Nat):Option ah:=
 (bH I M n 3 (⟨#[97]⟩:ByteArray) 0 []).bind fun y1=>
 (bH I M n 5 (⟨#[111,110,101,115]⟩:ByteArray) 0 []).bind fun y2=>
 (bH I M n 3 (⟨#[99,111,110,115]⟩:ByteArray) 0 ([0,1])).bind fun y3=>
 (cY I M n 2 ([y1,y2,y3])).bind fun y4=>
 (cp I M n (⟨#[111,110,101,115]⟩:ByteArray) 0 y4).bind fun y5=>
 (bH I M n 1 (⟨#[]⟩:ByteArray) 0 []).bind fun y6=>
 (cY I M n 0 ([y6])).bind fun y7=>
 (cp I M n (⟨#[105,100]⟩:ByteArray) 1 y7).bind fun y8=>
 (bH I M n 4 (⟨#[111,110,101,115]⟩:ByteArray) 0 []).bind fun y9=>
 (bH I M n 5 (⟨#[105,100]⟩:ByteArray) 0 ([0])).bind fun qO=>
 (bH I M n 5 (⟨#[111,110,101,115]⟩:ByteArray) 0 []).bind fun sm=>
 (bH I M n 3 (⟨#[112]⟩:ByteArray) 0 ([1,2])).bind fun CJ=>
 (cY I M n 3 ([y9,qO,sm,CJ])).bind fun pW=>
 (cp I M n (⟨#[116,119,111]⟩:ByteArray) 0 pW).bind fun E7=>
 (qw I M n ([y5,y8,E7])).bind fun Da=>
 some Da
def zR(I:Pr)(M:Md)(n:Nat)(a0:ae):Option Bool:=
 (some (aq a0.ops)).bind fun n1=>
 some (I.pick (I.aV 0 n1) (I.pK n1 60) false)
def gF(I:Pr)(M:Md)(n:Nat)(a0:ae):Option Bool:=
 (zR I M n a0).bind fun y1=>
 some (I.not y1)
def gS(I:Pr)(M:Md)(n:Nat)(a0:List ae)(n1:Int)(k:Int→Option Int)(self:Int→Option Int)(z2:Int):Option Int:=
 bif (I.aV z2 n1)then
  (gI a0 z2).bind fun x3=>
  (gF I M n x3).bind fun y4=>
  bif y4 then
  some z2
  else
  self (I.wrap .i64 (I.add z2 1))
 else
  k z2
def iR(I:Pr)(M:Md)(n:Nat)(a0:List ae):Option Int:=
 (some (aq a0)).bind fun n1=>
 iter (gS I M n a0 n1 (fun z5=>
  some (-1))) n 0
def fX(I:Pr)(M:Md)(n:Nat)(a0:List ae):Option Bool:=
 (iR I M n a0).bind fun y1=>
 some (I.pK 0 y1)
def jq(I:Pr)(M:Md)(n:Nat)(a0:List ae):Option Bool:=
 (fX I M n a0).bind fun y1=>
 some (I.not y1)
def zQ(I:Pr)(M:Md)(n:Nat)(a0:ae):Option Bool:=
 some (I.pick (I.pK 0 a0.kids) (I.pK a0.kids 4) false)
def gE(I:Pr)(M:Md)(n:Nat)(a0:ae):Option Bool:=
 (zQ I M n a0).bind fun y1=>
 some (I.not y1)
def gR(I:Pr)(M:Md)(n:Nat)(a0:List ae)(n1:Int)(k:Int→Option Int)(self:Int→Option Int)(z2:Int):Option Int:=
 bif (I.aV z2 n1)then
  (gI a0 z2).bind fun x3=>
  (gE I M n x3).bind fun y4=>
  bif y4 then
  some z2
  else
  self (I.wrap .i64 (I.add z2 1))
 else
  k z2
def iQ(I:Pr)(M:Md)(n:Nat)(a0:List ae):Option Int:=
 (some (aq a0)).bind fun n1=>
 iter (gR I M n a0 n1 (fun z5=>
  some (-1))) n 0
def fW(I:Pr)(M:Md)(n:Nat)(a0:List ae):Option Bool:=
 (iQ I M n a0).bind fun y1=>
 some (I.pK 0 y1)
def jo(I:Pr)(M:Md)(n:Nat)(a0:List ae):Option Bool:=
 (fW I M n a0).bind fun y1=>
 some (I.not y1)
def lr(I:Pr)(M:Md)(n:Nat)(a1:Int)(k:ByteArray→Option ByteArray)(self:ByteArray→Option ByteArray)(z1:ByteArray):Option ByteArray:=
 (some (la z1)).bind fun n2=>
 (cJ (I.aV 0 n2) true (gB z1 (I.wrap .i64 (I.sub n2 1))) default).bind fun x3=>
 bif (I.pick (I.aV 0 n2) (I.aJ x3 a1) false)then
  (EE z1 0 (I.wrap .i64 (I.sub n2 1))).bind fun s4=>
  self s4
 else
  k z1
def nj(I:Pr)(M:Md)(n:Nat)(a0:ByteArray)(a1:Int):Option ByteArray:=
 iter (lr I M n a1 (fun z5=>
  some z5)) n a0
def lX(I:Pr)(M:Md)(n:Nat)(a1:Int)(k:ByteArray→Option ByteArray)(self:ByteArray→Option ByteArray)(z1:ByteArray):Option ByteArray:=
 (some (la z1)).bind fun n2=>
 (cJ (I.aV 0 n2) true (gB z1 0) default).bind fun x3=>
 bif (I.pick (I.aV 0 n2) (I.aJ x3 a1) false)then
  (EE z1 1 (la z1)).bind fun s4=>
  self s4
 else
  k z1
def nX(I:Pr)(M:Md)(n:Nat)(a0:ByteArray)(a1:Int):Option ByteArray:=
 iter (lX I M n a1 (fun z5=>
  some z5)) n a0
def lY(I:Pr)(M:Md)(n:Nat)(a0:ByteArray)(k:(List Bool)×Int→Option ((List Bool)×Bool))(self:(List Bool)×Int→Option ((List Bool)×Bool))(st:(List Bool)×Int):Option ((List Bool)×Bool):=
 match st with
 |(l2,z3)=>
 (some (la a0)).bind fun n4=>
 bif (I.aV z3 n4)then
  (gB a0 z3).bind fun x5=>
  bif (I.pK 128 x5)then
  (lW 256 l2).bind fun u6=>
  (lW 256 l2).bind fun u7=>
  (lW 256 l2).bind fun u8=>
  some (l2,false)
  else
  (gN 256 x5).bind fun k9=>
  (gK l2 k9).bind fun yC=>
  (gg l2 k9 true).bind fun I2=>
  self (I2,(I.wrap .i64 (I.add z3 1)))
 else
  k (l2,z3)
def iK(I:Pr)(M:Md)(n:Nat)(a0:ByteArray):Option ((List Bool)×Bool):=
 (some (List.replicate 256 (false:Bool))).bind fun l1=>
 iter (lY I M n a0 (fun(iq,nu)=>
  (lW 256 iq).bind fun u14=>
  (lW 256 iq).bind fun u15=>
  (lW 256 iq).bind fun u16=>
  some (iq,true))) n (l1,0)
def bV(I:Pr)(M:Md)(n:Nat)(y6:(List Bool)×Bool)(k:ByteArray→Option ByteArray)(self:ByteArray→Option ByteArray)(uP:ByteArray):Option ByteArray:=
 (some (la uP)).bind fun DZ=>
 bif (I.aV 0 DZ)then
  (gB uP 0).bind fun qS=>
  (gN 256 qS).bind fun TZ=>
  (gK y6.1 TZ).bind fun Hd=>
  bif (I.not Hd)then
  k uP
  else
  (EE uP 1 (la uP)).bind fun s21=>
  self s21
 else
  k uP
def cE(I:Pr)(M:Md)(n:Nat)(y6:(List Bool)×Bool)(k:ByteArray→Option ByteArray)(self:ByteArray→Option ByteArray)(z9:ByteArray):Option ByteArray:=
 (some (la z9)).bind fun Kh=>
 bif (I.aV 0 Kh)then
  (gB z9 (I.wrap .i64 (I.sub Kh 1))).bind fun FV=>
  (gN 256 FV).bind fun k12=>
  (gK y6.1 k12).bind fun Bi=>
  bif (I.not Bi)then
  k z9
  else
  (EE z9 0 (I.wrap .i64 (I.sub Kh 1))).bind fun s22=>
  self s22
 else
  k z9
def jv(I:Pr)(M:Md)(n:Nat)(a0:ByteArray)(a1:ByteArray):Option ByteArray:=
 bif (I.pick (I.seq a0 (⟨#[]⟩:ByteArray)) true (I.seq a1 (⟨#[]⟩:ByteArray)))then
 some a0
 else
 (some (la a1)).bind fun n1=>
 (cJ (I.aJ n1 1) true (gB a1 0) default).bind fun x2=>
 bif (I.pick (I.aJ n1 1) (I.aV x2 128) false)then
  (gB a1 0).bind fun x3=>
  (nj I M n a0 x3).bind fun y4=>
  (nX I M n y4 x3).bind fun y5=>
  some y5
 else
  (iK I M n a1).bind fun y6=>
  (some (List.replicate 256 (false:Bool))).bind fun l7=>
  (lW 256 l7).bind fun u8=>
  bif y6.2 then
  iter (cE I M n y6 (fun ea=>
   iter (bV I M n y6 (fun Bf=>
    some Bf)) n ea)) n a0
  else
  none
def nG(I:Pr)(M:Md)(n:Nat)(a0:ByteArray):Option Bool:=
 (some (la a0)).bind fun n1=>
 (cJ (I.pick (I.aV 0 n1) (I.pK n1 8) false) true (jv I M n a0 (⟨#[97,98,99,100,101,102,103,104,105,106,107,108,109,110,111,112,113,114,115,116,117,118,119,120,121,122]⟩:ByteArray)) default).bind fun y2=>
 some (I.pick (I.pick (I.aV 0 n1) (I.pK n1 8) false) (I.seq y2 (⟨#[]⟩:ByteArray)) false)
def jH(I:Pr)(M:Md)(n:Nat)(a0:ae):Option Bool:=
 some (I.seq a0.head (⟨#[]⟩:ByteArray))
def kZ(I:Pr)(M:Md)(n:Nat)(a0:ae):Option Bool:=
 (jH I M n a0).bind fun y1=>
 (cJ y1 false (nG I M n a0.head) default).bind fun y2=>
 some (I.pick y1 true y2)
def gD(I:Pr)(M:Md)(n:Nat)(a0:ae):Option Bool:=
 (kZ I M n a0).bind fun y1=>
 some (I.not y1)
def gQ(I:Pr)(M:Md)(n:Nat)(a0:List ae)(n1:Int)(k:Int→Option Int)(self:Int→Option Int)(z2:Int):Option Int:=
 bif (I.aV z2 n1)then
  (gI a0 z2).bind fun x3=>
  (gD I M n x3).bind fun y4=>
  bif y4 then
  some z2
  else
  self (I.wrap .i64 (I.add z2 1))
 else
  k z2
def iP(I:Pr)(M:Md)(n:Nat)(a0:List ae):Option Int:=
 (some (aq a0)).bind fun n1=>
 iter (gQ I M n a0 n1 (fun z5=>
  some (-1))) n 0
def fV(I:Pr)(M:Md)(n:Nat)(a0:List ae):Option Bool:=
 (iP I M n a0).bind fun y1=>
 some (I.pK 0 y1)
def jn(I:Pr)(M:Md)(n:Nat)(a0:List ae):Option Bool:=
 (fV I M n a0).bind fun y1=>
 some (I.not y1)
def kY(I:Pr)(M:Md)(n:Nat)(a0:ae)(a2:aj):Option Bool:=
 (jH I M n a0).bind fun y1=>
 (some (aq a2.ag)).bind fun n2=>
 some (I.pick y1 (I.pick (I.aV 1 n2) true (I.not (I.aJ a0.kids 0))) false)
def gP(I:Pr)(M:Md)(n:Nat)(a0:List ae)(ri:aj)(n1:Int)(k:Int→Option Int)(self:Int→Option Int)(z2:Int):Option Int:=
 bif (I.aV z2 n1)then
  (gI a0 z2).bind fun x3=>
  (kY I M n x3 ri).bind fun y4=>
  bif y4 then
  some z2
  else
  self (I.wrap .i64 (I.add z2 1))
 else
  k z2
def iO(I:Pr)(M:Md)(n:Nat)(a0:List ae)(ri:aj):Option Int:=
 (some (aq a0)).bind fun n1=>
 iter (gP I M n a0 ri n1 (fun z5=>
  some (-1))) n 0
def dD(I:Pr)(M:Md)(n:Nat)(a0:List ae)(ri:aj):Option Bool:=
 (iO I M n a0 ri).bind fun y1=>
 some (I.pK 0 y1)
def gC(I:Pr)(M:Md)(n:Nat)(a0:ae):Option Bool:=
 (jH I M n a0).bind fun y1=>
 some (I.not y1)
def gO(I:Pr)(M:Md)(n:Nat)(a0:List ae)(n1:Int)(k:Int→Option Int)(self:Int→Option Int)(z2:Int):Option Int:=
 bif (I.aV z2 n1)then
  (gI a0 z2).bind fun x3=>
  (gC I M n x3).bind fun y4=>
  bif y4 then
  some z2
  else
  self (I.wrap .i64 (I.add z2 1))
 else
  k z2
def iN(I:Pr)(M:Md)(n:Nat)(a0:List ae):Option Int:=
 (some (aq a0)).bind fun n1=>
 iter (gO I M n a0 n1 (fun z5=>
  some (-1))) n 0
def fU(I:Pr)(M:Md)(n:Nat)(a0:List ae):Option Bool:=
 (iN I M n a0).bind fun y1=>
 some (I.pK 0 y1)
def jm(I:Pr)(M:Md)(n:Nat)(a0:List ae):Option Bool:=
 (fU I M n a0).bind fun y1=>
 some (I.not y1)
def mR(I:Pr)(M:Md)(n:Nat)(a0:ae)(a1:ae):Option Bool:=
 some (I.pick (I.seq a0.head a1.head) (I.aJ a0.kids a1.kids) false)
def gL(I:Pr)(M:Md)(n:Nat)(a0:List ae)(aW:ae)(n1:Int)(k:Int→Option Int)(self:Int→Option Int)(z2:Int):Option Int:=
 bif (I.aV z2 n1)then
  (gI a0 z2).bind fun x3=>
  (mR I M n x3 aW).bind fun y4=>
  bif y4 then
  some z2
  else
  self (I.wrap .i64 (I.add z2 1))
 else
  k z2
def ej(I:Pr)(M:Md)(n:Nat)(a0:List ae)(aW:ae):Option Int:=
 (some (aq a0)).bind fun n1=>
 iter (gL I M n a0 aW n1 (fun z5=>
  some (-1))) n 0
def mQ(I:Pr)(M:Md)(n:Nat)(a0:ae)(a1:ae):Option Bool:=
 some (I.pick (I.seq a0.head a1.head) (I.aJ a0.kids a1.kids) false)
def gJ(I:Pr)(M:Md)(n:Nat)(a0:List ae)(aW:ae)(n1:Int)(k:Int→Option Int)(self:Int→Option Int)(z2:Int):Option Int:=
 bif (I.aV z2 n1)then
  (gI a0 z2).bind fun x3=>
  (mQ I M n x3 aW).bind fun y4=>
  bif y4 then
  some z2
  else
  self (I.wrap .i64 (I.add z2 1))
 else
  k z2
def ei(I:Pr)(M:Md)(n:Nat)(a0:List ae)(aW:ae):Option Int:=
 (some (aq a0)).bind fun n1=>
 iter (gJ I M n a0 aW n1 (fun z5=>
  some (-1))) n 0
def hZ(I:Pr)(M:Md)(n:Nat)(a0:ae)(a1:aj):Option Bool:=
 (ej I M n a1.ag a0).bind fun y1=>
 (EC a1.ag (I.wrap .i64 (I.add y1 1)) (aq a1.ag)).bind fun l2=>
 (ei I M n l2 a0).bind fun y3=>
 some (I.pK 0 y3)
def gM(I:Pr)(M:Md)(n:Nat)(a0:List ae)(aW:aj)(n1:Int)(k:Int→Option Int)(self:Int→Option Int)(z2:Int):Option Int:=
 bif (I.aV z2 n1)then
  (gI a0 z2).bind fun x3=>
  (hZ I M n x3 (⟨aW.name,aW.arity,aW.ag⟩:aj)).bind fun y4=>
  bif y4 then
  some z2
  else
  self (I.wrap .i64 (I.add z2 1))
 else
  k z2
def iM(I:Pr)(M:Md)(n:Nat)(a0:List ae)(aW:aj):Option Int:=
 (some (aq a0)).bind fun n1=>
 iter (gM I M n a0 aW n1 (fun z5=>
  some (-1))) n 0
def cD(I:Pr)(M:Md)(n:Nat)(a0:List ae)(aW:aj):Option Bool:=
 (iM I M n a0 (⟨aW.name,aW.arity,aW.ag⟩:aj)).bind fun y1=>
 some (I.pK 0 y1)
def uB(I:Pr)(M:Md)(n:Nat)(a0:aj):Option Int:=
 (some (aq a0.ag)).bind fun n1=>
 (cJ (I.pick (I.aV n1 1) true (I.aV 6 n1)) false (jq I M n a0.ag) default).bind fun y2=>
 bif (I.pick (I.pick (I.aV n1 1) true (I.aV 6 n1)) true (I.not y2))then
 some 2
 else
 (cJ (I.pick (I.aV a0.arity 0) true (I.aV 4 a0.arity)) false (jo I M n a0.ag) default).bind fun y3=>
 bif (I.pick (I.pick (I.aV a0.arity 0) true (I.aV 4 a0.arity)) true (I.not y3))then
  some 3
 else
  (nG I M n a0.name).bind fun y4=>
  (cJ (I.not y4) false (jn I M n a0.ag) default).bind fun y5=>
  bif (I.pick (I.not y4) true (I.not y5))then
  some 4
  else
  (dD I M n a0.ag (⟨a0.name,a0.arity,a0.ag⟩:aj)).bind fun y6=>
  bif y6 then
   some 7
  else
   (cJ (I.aJ a0.arity 0) true (jm I M n a0.ag) default).bind fun y7=>
   bif (I.pick (I.aJ a0.arity 0) (I.not y7) false)then
   some 7
   else
   (cD I M n a0.ag (⟨a0.name,a0.arity,a0.ag⟩:aj)).bind fun y8=>
   bif y8 then
    some 5
   else
    some 0
def mS(I:Pr)(M:Md)(n:Nat)(a0:aj)(a1:ByteArray):Option Bool:=
 some (I.seq a0.name a1)
def iC(I:Pr)(M:Md)(n:Nat)(a0:List aj)(aW:ByteArray)(n1:Int)(k:Int→Option Int)(self:Int→Option Int)(z2:Int):Option Int:=
 bif (I.aV z2 n1)then
  (gI a0 z2).bind fun x3=>
  (mS I M n x3 aW).bind fun y4=>
  bif y4 then
  some z2
  else
  self (I.wrap .i64 (I.add z2 1))
 else
  k z2
def eL(I:Pr)(M:Md)(n:Nat)(a0:List aj)(aW:ByteArray):Option Int:=
 (some (aq a0)).bind fun n1=>
 iter (iC I M n a0 aW n1 (fun z5=>
  some (-1))) n 0
def cK(I:Pr)(M:Md)(n:Nat)(a0:ByteArray)(a1:ah):Option Int:=
 (eL I M n a1.blocks a0).bind fun y1=>
 some y1
def zS(I:Pr)(M:Md)(n:Nat)(a0:Int)(a1:Int):Option Bool:=
 some (I.pick (I.pK 0 a0) (I.aV a0 a1) false)
def kg(I:Pr)(M:Md)(n:Nat)(a0:Int)(aW:Int):Option Bool:=
 (zS I M n a0 aW).bind fun y1=>
 some (I.not y1)
def jM(I:Pr)(M:Md)(n:Nat)(a0:List Int)(qM:Int)(n1:Int)(k:Int→Option Int)(self:Int→Option Int)(z2:Int):Option Int:=
 bif (I.aV z2 n1)then
  (gI a0 z2).bind fun x3=>
  (kg I M n x3 qM).bind fun y4=>
  bif y4 then
  some z2
  else
  self (I.wrap .i64 (I.add z2 1))
 else
  k z2
def lA(I:Pr)(M:Md)(n:Nat)(a0:List Int)(qM:Int):Option Int:=
 (some (aq a0)).bind fun n1=>
 iter (jM I M n a0 qM n1 (fun z5=>
  some (-1))) n 0
def er(I:Pr)(M:Md)(n:Nat)(a0:List Int)(qM:Int):Option Bool:=
 (lA I M n a0 qM).bind fun y1=>
 some (I.pK 0 y1)
def iG(I:Pr)(M:Md)(n:Nat)(a0:List Int)(aW:Int):Option Bool:=
 (er I M n a0 aW).bind fun y1=>
 some (I.not y1)
def EF(I:Pr)(M:Md)(n:Nat)(a0:Int)(a1:List Bool):Option Bool:=
 (gI a1 a0).bind fun x1=>
 some x1
def qT(I:Pr)(M:Md)(n:Nat)(a0:List Int)(aW:List Bool)(n1:Int)(k:Int→Option Int)(self:Int→Option Int)(z2:Int):Option Int:=
 bif (I.aV z2 n1)then
  (gI a0 z2).bind fun x3=>
  (EF I M n x3 aW).bind fun y4=>
  bif y4 then
  some z2
  else
  self (I.wrap .i64 (I.add z2 1))
 else
  k z2
def sr(I:Pr)(M:Md)(n:Nat)(a0:List Int)(aW:List Bool):Option Int:=
 (some (aq a0)).bind fun n1=>
 iter (qT I M n a0 aW n1 (fun z5=>
  some (-1))) n 0
def slices_ContainsFunc_int_v2(I:Pr)(M:Md)(n:Nat)(a0:List Int)(aW:List Bool):Option Bool:=
 (sr I M n a0 aW).bind fun y1=>
 some (I.pK 0 y1)
def wv(I:Pr)(M:Md)(n:Nat)(a0:Int):Option Bool:=
 none
def jL(I:Pr)(M:Md)(n:Nat)(a0:List Int)(n1:Int)(k:Int→Option Int)(self:Int→Option Int)(z2:Int):Option Int:=
 bif (I.aV z2 n1)then
  (gI a0 z2).bind fun x3=>
  (wv I M n x3).bind fun y4=>
  bif y4 then
  some z2
  else
  self (I.wrap .i64 (I.add z2 1))
 else
  k z2
def lz(I:Pr)(M:Md)(n:Nat)(a0:List Int):Option Int:=
 (some (aq a0)).bind fun n1=>
 iter (jL I M n a0 n1 (fun z5=>
  some (-1))) n 0
def qb(I:Pr)(M:Md)(n:Nat)(a0:List Int):Option Bool:=
 (lz I M n a0).bind fun y1=>
 some (I.pK 0 y1)
def mP(I:Pr)(M:Md)(n:Nat)(a0:Int)(a1:List Bool):Option Bool:=
 (gI a1 a0).bind fun x1=>
 some x1
def jK(I:Pr)(M:Md)(n:Nat)(a0:List Int)(aW:List Bool)(n1:Int)(k:Int→Option Int)(self:Int→Option Int)(z2:Int):Option Int:=
 bif (I.aV z2 n1)then
  (gI a0 z2).bind fun x3=>
  (mP I M n x3 aW).bind fun y4=>
  bif y4 then
  some z2
  else
  self (I.wrap .i64 (I.add z2 1))
 else
  k z2
def ly(I:Pr)(M:Md)(n:Nat)(a0:List Int)(aW:List Bool):Option Int:=
 (some (aq a0)).bind fun n1=>
 iter (jK I M n a0 aW n1 (fun z5=>
  some (-1))) n 0
def ep(I:Pr)(M:Md)(n:Nat)(a0:List Int)(aW:List Bool):Option Bool:=
 (ly I M n a0 aW).bind fun y1=>
 some (I.pK 0 y1)
def oI(I:Pr)(M:Md)(n:Nat)(a0:List aL)(n1:Int)(k:(List Bool)×Int→Option (List Bool))(self:(List Bool)×Int→Option (List Bool))(st:(List Bool)×Int):Option (List Bool):=
 match st with
 |(l2,z3)=>
 bif (I.aV z3 n1)then
  (gI a0 z3).bind fun x4=>
  (cJ (I.aJ x4.kind 5) false (cJ (I.aJ x4.kind 3) true (ep I M n x4.args l2) default) default).bind fun y5=>
  (aI 1 l2 (I.pick (I.aJ x4.kind 5) true (I.pick (I.aJ x4.kind 3) y5 false))).bind fun l6=>
  self (l6,(I.wrap .i64 (I.add z3 1)))
 else
  k (l2,z3)
def wZ(I:Pr)(M:Md)(n:Nat)(a0:List aL):Option (List Bool):=
 (some (aq a0)).bind fun n1=>
 iter (oI I M n a0 n1 (fun(l7,z8)=>
  some l7)) n ([],0)
def pL(I:Pr)(M:Md)(n:Nat)(a0:Int)(a1:List Bool):Option Bool:=
 (gI a1 a0).bind fun x1=>
 some x1
def jJ(I:Pr)(M:Md)(n:Nat)(a0:List Int)(aW:List Bool)(n1:Int)(k:Int→Option Int)(self:Int→Option Int)(z2:Int):Option Int:=
 bif (I.aV z2 n1)then
  (gI a0 z2).bind fun x3=>
  (pL I M n x3 aW).bind fun y4=>
  bif y4 then
  some z2
  else
  self (I.wrap .i64 (I.add z2 1))
 else
  k z2
def lx(I:Pr)(M:Md)(n:Nat)(a0:List Int)(aW:List Bool):Option Int:=
 (some (aq a0)).bind fun n1=>
 iter (jJ I M n a0 aW n1 (fun z5=>
  some (-1))) n 0
def eo(I:Pr)(M:Md)(n:Nat)(a0:List Int)(aW:List Bool):Option Bool:=
 (lx I M n a0 aW).bind fun y1=>
 some (I.pK 0 y1)
def zT(I:Pr)(M:Md)(n:Nat)(a0:ah)(a1:aj)(a2:ae)(a3:Int):Option Int:=
 (gI a2.ops a3).bind fun x1=>
 (Gp ([]:List (Int×Int)) 1 (I.wrap .i64 (I.sub a1.arity 1))).bind fun l2=>
 (Gp l2 2 (I.wrap .i64 (I.sub a2.kids 1))).bind fun l3=>
 (some (jS l3 x1.kind 0)).bind fun x4=>
 bif (I.pick (I.aV x1.kind 1) true (I.aV 5 x1.kind))then
 some 3
 else
 (cJ (I.pick (I.pick (I.aJ x1.kind 1) true (I.aJ x1.kind 2)) (I.not (I.seq x1.name (⟨#[]⟩:ByteArray))) false) false (cJ (I.not (I.pick (I.aJ x1.kind 1) true (I.aJ x1.kind 2))) true (nG I M n x1.name) default) default).bind fun y5=>
 bif (I.pick (I.pick (I.pick (I.aJ x1.kind 1) true (I.aJ x1.kind 2)) (I.not (I.seq x1.name (⟨#[]⟩:ByteArray))) false) true (I.pick (I.not (I.pick (I.aJ x1.kind 1) true (I.aJ x1.kind 2))) (I.not y5) false))then
  some 4
 else
  bif (I.pick (I.aV x1.num 0) true (I.aV x4 x1.num))then
  some 1
  else
  (some (aq x1.args)).bind fun n6=>
  bif (I.pick (I.pick (I.pick (I.aJ x1.kind 1) true (I.aJ x1.kind 2)) (I.aV 0 n6) false) true (I.pick (I.aJ x1.kind 3) (I.aV 4 n6) false))then
   some 2
  else
   (iG I M n x1.args a3).bind fun y7=>
   (cJ (I.not y7) false (cJ (I.pick (I.aJ x1.kind 4) true (I.aJ x1.kind 5)) true (cK I M n x1.name (⟨a0.blocks⟩:ah)) default) default).bind fun y8=>
   bif (I.pick (I.not y7) true (I.pick (I.pick (I.aJ x1.kind 4) true (I.aJ x1.kind 5)) (I.aV y8 0) false))then
   some 1
   else
   bif (I.not (I.pick (I.aJ x1.kind 4) true (I.aJ x1.kind 5)))then
    some 0
   else
    (EC a2.ops 0 a3).bind fun l9=>
    (wZ I M n l9).bind fun qO=>
    (cK I M n x1.name (⟨a0.blocks⟩:ah)).bind fun sm=>
    (gI a0.blocks sm).bind fun u9=>
    (cJ (I.not (I.aJ n6 u9.arity)) false (eo I M n x1.args qO) default).bind fun pW=>
    bif (I.pick (I.not (I.aJ n6 u9.arity)) true pW)then
    some 7
    else
    some 0
def mT(I:Pr)(M:Md)(n:Nat)(a0:ah)(QO:Int)(vf:aj)(qS:ae)(k:Int→Option Int)(self:Int→Option Int)(eh:Int):Option Int:=
 bif (I.aV eh QO)then
  (zT I M n (⟨a0.blocks⟩:ah) vf qS eh).bind fun NT=>
  bif (I.not (I.aJ NT 0))then
  some NT
  else
  self (I.wrap .i64 (I.add eh 1))
 else
  k eh
def mU(I:Pr)(M:Md)(n:Nat)(a0:ah)(XB:Int)(vf:aj)(k:Int→Option Int)(self:Int→Option Int)(jW:Int):Option Int:=
 bif (I.aV jW XB)then
  (gI vf.ag jW).bind fun qS=>
  (some (aq qS.ops)).bind fun QO=>
  iter (mT I M n a0 QO vf qS (fun z21=>
   (some (aq qS.ops)).bind fun TB=>
   bif (I.pick (I.aV qS.result 0) true (I.pK TB qS.result))then
   some 1
   else
   self (I.wrap .i64 (I.add jW 1)))) n 0
 else
  k jW
def mV(I:Pr)(M:Md)(n:Nat)(a0:ah)(Vw:Int)(k:Int→Option Int)(self:Int→Option Int)(nu:Int):Option Int:=
 bif (I.aV nu Vw)then
  (gI a0.blocks nu).bind fun vf=>
  (some (aq vf.ag)).bind fun XB=>
  iter (mU I M n a0 XB vf (fun z23=>
   self (I.wrap .i64 (I.add nu 1)))) n 0
 else
  k nu
def mW(I:Pr)(M:Md)(n:Nat)(a0:ah)(n6:Int)(k:Int→Option Int)(self:Int→Option Int)(z7:Int):Option Int:=
 bif (I.aV z7 n6)then
  (gI a0.blocks z7).bind fun x8=>
  (
  (cK I M n x8.name (⟨a0.blocks⟩:ah)).bind fun qO=>
  some (I.aV qO z7)).bind fun j9=>
  bif j9 then
  some 5
  else
  self (I.wrap .i64 (I.add z7 1))
 else
  k z7
def mX(I:Pr)(M:Md)(n:Nat)(a0:ah)(n1:Int)(k:Int→Option Int)(self:Int→Option Int)(z2:Int):Option Int:=
 bif (I.aV z2 n1)then
  (gI a0.blocks z2).bind fun x3=>
  (uB I M n x3).bind fun y4=>
  bif (I.not (I.aJ y4 0))then
  some y4
  else
  self (I.wrap .i64 (I.add z2 1))
 else
  k z2
def c4(I:Pr)(M:Md)(n:Nat)(a0:ah):Option Int:=
 (some (aq a0.blocks)).bind fun n1=>
 bif (I.pick (I.aV n1 1) true (I.aV 12 n1))then
 some 2
 else
 iter (mX I M n a0 n1 (fun z5=>
  (some (aq a0.blocks)).bind fun n6=>
  iter (mW I M n a0 n6 (fun FQ=>
   (some (aq a0.blocks)).bind fun Vw=>
   iter (mV I M n a0 Vw (fun QK=>
    some 0)) n 0)) n 0)) n 0
def fc(I:Pr)(M:Md)(n:Nat)(a0:aL):Option Bool:=
 some (I.pick (I.aJ a0.kind 4) true (I.aJ a0.kind 5))
def ja(I:Pr)(M:Md)(n:Nat)(a0:ae)(l2:List Bool)(n7:Int)(x5:aL)(k:(List Bool)×Int→Option (List Bool))(self:(List Bool)×Int→Option (List Bool))(st:(List Bool)×Int):Option (List Bool):=
 match st with
 |(l8,z9)=>
 bif (I.aV z9 n7)then
  (gI x5.args z9).bind fun yC=>
  (Fs I M n (⟨a0.head,a0.kids,a0.ops,a0.result⟩:ae) (M.ln l2) n l8 yC).bind fun I2=>
  self (I2,(I.wrap .i64 (I.add z9 1)))
 else
  k (l8,z9)
def jc(I:Pr)(M:Md)(n:Nat)(a0:ae)(l2:List Bool)(n1:Int)(k:(List Bool)×Int→Option (List Bool))(self:(List Bool)×Int→Option (List Bool))(st:(List Bool)×Int):Option (List Bool):=
 match st with
 |(l3,z4)=>
 bif (I.aV z4 n1)then
  (gI a0.ops z4).bind fun x5=>
  (fc I M n x5).bind fun y6=>
  bif y6 then
  (some (aq x5.args)).bind fun n7=>
  iter (ja I M n a0 l2 n7 x5 (fun(iq,nu)=>
   self (iq,(I.wrap .i64 (I.add z4 1))))) n (l3,0)
  else
  self (l3,(I.wrap .i64 (I.add z4 1)))
 else
  k (l3,z4)
def mv(I:Pr)(M:Md)(n:Nat)(a0:ae):Option (List Bool):=
 (some (aq a0.ops)).bind fun n1=>
 (vc 1 n1 false).bind fun l2=>
 iter (jc I M n a0 l2 n1 (fun(OC,uP)=>
  (dM (M.ln l2) OC).bind fun u16=>
  some OC)) n (l2,0)
def mu(I:Pr)(M:Md)(n:Nat)(a1:List Int)(n1:Int)(k:Int×(List Int)→Option (List Int))(self:Int×(List Int)→Option (List Int))(st:Int×(List Int)):Option (List Int):=
 match st with
 |(z2,l3)=>
 bif (I.aV z2 n1)then
  (gI a1 z2).bind fun x4=>
  none
 else
  k (z2,l3)
def vy(I:Pr)(M:Md)(n:Nat)(nN:ByteArray)(nM:Int)(nL:Int)(a1:List Int):Option (List Int):=
 (some (aq a1)).bind fun n1=>
 iter (mu I M n a1 n1 (fun(z5,l6)=>
  some l6)) n (0,[])
def cW(I:Pr)(M:Md)(n:Nat)(nK:List Int)(a1:List Int)(n1:Int)(k:Int×(List Int)→Option (List Int))(self:Int×(List Int)→Option (List Int))(st:Int×(List Int)):Option (List Int):=
 match st with
 |(z2,l3)=>
 bif (I.aV z2 n1)then
  (gI a1 z2).bind fun x4=>
  (gI nK x4).bind fun x5=>
  (aI 8 l3 x5).bind fun l6=>
  self ((I.wrap .i64 (I.add z2 1)),l6)
 else
  k (z2,l3)
def bw(I:Pr)(M:Md)(n:Nat)(nN:ByteArray)(nM:Int)(ER:List aL)(nL:Int)(nK:List Int)(a1:List Int):Option (List Int):=
 (some (aq a1)).bind fun n1=>
 iter (cW I M n nK a1 n1 (fun(z7,l8)=>
  some l8)) n (0,[])
def eU(I:Pr)(M:Md)(n:Nat)(Xy:Int)(dR:ae)(EZ:List Bool)(k:(List aL)×(List Int)×Int→Option (ah×Int))(self:(List aL)×(List Int)×Int→Option (ah×Int))(st:(List aL)×(List Int)×Int):Option (ah×Int):=
 match st with
 |(Ij,Gv,CI)=>
 bif (I.aV CI Xy)then
  (gI dR.ops CI).bind fun oP=>
  (
  (cJ (I.aJ oP.kind 4) true (gI EZ CI) default).bind fun x38=>
  bif (I.pick (I.aJ oP.kind 4) (I.not x38) false)then
   (
   (bw I M n dR.head dR.kids Ij 0 Gv oP.args).bind fun LD=>
   (some (aq LD)).bind fun n42=>
   (vc 8 n42 0).bind fun Lt=>
   (some (lQ (M.ln Lt) LD Lt)).bind fun Fu=>
   (some (oK (M.ln Lt) LD)).bind fun MY=>
   bif (I.aJ n42 0)then
    (aI 56 Ij (⟨5,oP.name,oP.num,[]⟩:aL)).bind fun l46=>
    (some (aq l46)).bind fun n47=>
    some ((I.wrap .i64 (I.sub n47 1)),l46)
   else
    (dM (M.ln Lt) Fu).bind fun u48=>
    (aI 56 Ij (⟨5,oP.name,oP.num,Fu⟩:aL)).bind fun TS=>
    (some (aq TS)).bind fun Xx=>
    some ((I.wrap .i64 (I.sub Xx 1)),TS)).bind fun(Ci,j40)=>
   (aI 8 Gv Ci).bind fun Vx=>
   some (j40,Vx)
  else
   (
   (bw I M n dR.head dR.kids Ij 0 Gv oP.args).bind fun Pj=>
   (some (aq Pj)).bind fun n55=>
   (vc 8 n55 0).bind fun M9=>
   (some (lQ (M.ln M9) Pj M9)).bind fun TR=>
   (some (oK (M.ln M9) Pj)).bind fun Tz=>
   bif (I.aJ n55 0)then
    (aI 56 Ij (⟨oP.kind,oP.name,oP.num,[]⟩:aL)).bind fun Ks=>
    (some (aq Ks)).bind fun n60=>
    some ((I.wrap .i64 (I.sub n60 1)),Ks)
   else
    (dM (M.ln M9) TR).bind fun u61=>
    (aI 56 Ij (⟨oP.kind,oP.name,oP.num,TR⟩:aL)).bind fun M8=>
    (some (aq M8)).bind fun MX=>
    some ((I.wrap .i64 (I.sub MX 1)),M8)).bind fun(j52,j53)=>
   (aI 8 Gv j52).bind fun P5=>
   some (j53,P5)).bind fun(Qd,Fw)=>
  self (Qd,Fw,(I.wrap .i64 (I.add CI 1)))
 else
  k (Ij,Gv,CI)
def eV(I:Pr)(M:Md)(n:Nat)(a0:ah)(l9:List aj)(DZ:Int)(yB:aj)(ea:Int)(k:(List Bool)×(List aj)×Int→Option (ah×Int))(self:(List Bool)×(List aj)×Int→Option (ah×Int))(st:(List Bool)×(List aj)×Int):Option (ah×Int):=
 match st with
 |(tw,qQ,eh)=>
 bif (I.aV eh DZ)then
  (gI yB.ag eh).bind fun dR=>
  (some (List.replicate 2 (0:Int))).bind fun vQ=>
  (lW 2 vQ).bind fun VY=>
  (lW 2 ([ea,eh])).bind fun Pv=>
  (gN 2 0).bind fun XS=>
  (gK ([ea,eh]) XS).bind fun Ad=>
  (gI a0.blocks Ad).bind fun x26=>
  (gN 2 1).bind fun k27=>
  (gK ([ea,eh]) k27).bind fun x28=>
  (gI x26.ag x28).bind fun pM=>
  (mv I M n pM).bind fun EZ=>
  (some (aq dR.ops)).bind fun Xy=>
  iter (eU I M n Xy dR EZ (fun(P4,Ls,z67)=>
   (gI Ls dR.result).bind fun VT=>
   (gN 2 0).bind fun Vy=>
   (gK ([ea,eh]) Vy).bind fun VS=>
   (gN (M.ln l9) VS).bind fun k71=>
   (gK qQ k71).bind fun ZS=>
   (aI 56 ZS.ag (⟨dR.head,dR.kids,P4,VT⟩:ae)).bind fun TQ=>
   (gg qQ k71 (⟨ZS.name,ZS.arity,TQ⟩:aj)).bind fun XI=>
   self (EZ,XI,(I.wrap .i64 (I.add eh 1))))) n ([],[],0)
 else
  k (tw,qQ,eh)
def eW(I:Pr)(M:Md)(n:Nat)(a0:ah)(l9:List aj)(uU:Int)(k:(List Bool)×(List aj)×Int→Option (ah×Int))(self:(List Bool)×(List aj)×Int→Option (ah×Int))(st:(List Bool)×(List aj)×Int):Option (ah×Int):=
 match st with
 |(iq,xi,ea)=>
 bif (I.aV ea uU)then
  (gI a0.blocks ea).bind fun yB=>
  (some (aq yB.ag)).bind fun DZ=>
  iter (eV I M n a0 l9 DZ yB ea (fun(XH,XG,z77)=>
   self (XH,XG,(I.wrap .i64 (I.add ea 1))))) n (iq,xi,0)
 else
  k (iq,xi,ea)
def eX(I:Pr)(M:Md)(n:Nat)(a0:ah)(n2:Int)(k:(List aj)×Int→Option (ah×Int))(self:(List aj)×Int→Option (ah×Int))(st:(List aj)×Int):Option (ah×Int):=
 match st with
 |(l5,z6)=>
 bif (I.aV z6 n2)then
  (gI a0.blocks z6).bind fun x7=>
  (aI 48 l5 (⟨x7.name,x7.arity,[]⟩:aj)).bind fun l8=>
  self (l8,(I.wrap .i64 (I.add z6 1)))
 else
  k (l5,z6)
def cd(I:Pr)(M:Md)(n:Nat)(a0:ah):Option (ah×Int):=
 (c4 I M n a0).bind fun y1=>
 bif (I.not (I.aJ y1 0))then
 some ((⟨[]⟩:ah),y1)
 else
 (some (aq a0.blocks)).bind fun n2=>
 bif (I.aV 0 n2)then
  (gI a0.blocks 0).bind fun x3=>
  (aI 48 [] (⟨x3.name,x3.arity,[]⟩:aj)).bind fun l4=>
  iter (eX I M n a0 n2 (fun(l9,yF)=>
   (some (aq a0.blocks)).bind fun uU=>
   iter (eW I M n a0 l9 uU (fun(Ih,l79,z80)=>
    (dM (M.ln l9) l79).bind fun u81=>
    some ((⟨l79⟩:ah),0))) n ([],l9,0))) n (l4,(I.wrap .i64 (I.add 0 1)))
 else
  none
def mq(I:Pr)(M:Md)(n:Nat)(a1:List Int)(n1:Int)(k:Int×(List Int)→Option (List Int))(self:Int×(List Int)→Option (List Int))(st:Int×(List Int)):Option (List Int):=
 match st with
 |(z2,l3)=>
 bif (I.aV z2 n1)then
  (gI a1 z2).bind fun x4=>
  none
 else
  k (z2,l3)
def vx(I:Pr)(M:Md)(n:Nat)(nN:ByteArray)(nM:Int)(nL:Int)(lh:ah)(a1:List Int):Option (List Int):=
 (some (aq a1)).bind fun n1=>
 iter (mq I M n a1 n1 (fun(z5,l6)=>
  some l6)) n (0,[])
def rz(I:Pr)(M:Md)(n:Nat)(a0:aj)(a1:ByteArray):Option Bool:=
 some (I.seq a0.name a1)
def iB(I:Pr)(M:Md)(n:Nat)(a0:List aj)(aW:ByteArray)(n1:Int)(k:Int→Option Int)(self:Int→Option Int)(z2:Int):Option Int:=
 bif (I.aV z2 n1)then
  (gI a0 z2).bind fun x3=>
  (rz I M n x3 aW).bind fun y4=>
  bif y4 then
  some z2
  else
  self (I.wrap .i64 (I.add z2 1))
 else
  k z2
def jO(I:Pr)(M:Md)(n:Nat)(a0:List aj)(aW:ByteArray):Option Int:=
 (some (aq a0)).bind fun n1=>
 iter (iB I M n a0 aW n1 (fun z5=>
  some (-1))) n 0
def tR(I:Pr)(M:Md)(n:Nat)(a0:ah)(a1:ByteArray):Option aj:=
 (jO I M n a0.blocks a1).bind fun y1=>
 (gI a0.blocks y1).bind fun x2=>
 some x2
def vz(I:Pr)(M:Md)(n:Nat)(a0:aL):Option Bool:=
 (fc I M n a0).bind fun y1=>
 some (I.not y1)
def oc(I:Pr)(M:Md)(n:Nat)(a0:aL):Option Bool:=
 (vz I M n a0).bind fun y1=>
 some (I.not y1)
def kr(I:Pr)(M:Md)(n:Nat)(a0:List aL)(n1:Int)(k:Int→Option Int)(self:Int→Option Int)(z2:Int):Option Int:=
 bif (I.aV z2 n1)then
  (gI a0 z2).bind fun x3=>
  (oc I M n x3).bind fun y4=>
  bif y4 then
  some z2
  else
  self (I.wrap .i64 (I.add z2 1))
 else
  k z2
def ma(I:Pr)(M:Md)(n:Nat)(a0:List aL):Option Int:=
 (some (aq a0)).bind fun n1=>
 iter (kr I M n a0 n1 (fun z5=>
  some (-1))) n 0
def jR(I:Pr)(M:Md)(n:Nat)(a0:List aL):Option Bool:=
 (ma I M n a0).bind fun y1=>
 some (I.pK 0 y1)
def qj(I:Pr)(M:Md)(n:Nat)(a0:List aL):Option Bool:=
 (jR I M n a0).bind fun y1=>
 some (I.not y1)
def tQ(I:Pr)(M:Md)(n:Nat)(a0:ae):Option Bool:=
 (qj I M n a0.ops).bind fun y1=>
 some y1
def mw(I:Pr)(M:Md)(n:Nat)(a0:aj):Option Bool:=
 (some (aq a0.ag)).bind fun n1=>
 (cJ (I.aJ n1 1) true (gI a0.ag 0) default).bind fun x2=>
 (cJ (I.pick (I.aJ n1 1) (I.seq x2.head (⟨#[]⟩:ByteArray)) false) true (gI a0.ag 0) default).bind fun x3=>
 (cJ (I.pick (I.aJ n1 1) (I.seq x2.head (⟨#[]⟩:ByteArray)) false) true (tQ I M n (⟨x3.head,x3.kids,x3.ops,x3.result⟩:ae)) default).bind fun y4=>
 some (I.pick (I.pick (I.aJ n1 1) (I.seq x2.head (⟨#[]⟩:ByteArray)) false) y4 false)
def vB(I:Pr)(M:Md)(n:Nat)(a0:List Int)(n1:Int)(k:Int×Int→Option Int)(self:Int×Int→Option Int)(st:Int×Int):Option Int:=
 match st with
 |(z2,z3)=>
 bif (I.aV z3 n1)then
  (gI a0 z3).bind fun x4=>
  self ((I.wrap .i64 (I.add z2 x4)),(I.wrap .i64 (I.add z3 1)))
 else
  k (z2,z3)
def my(I:Pr)(M:Md)(n:Nat)(a0:List Int):Option Int:=
 (some (aq a0)).bind fun n1=>
 iter (vB I M n a0 n1 (fun(z5,z6)=>
  some z5)) n (0,0)
def mr(I:Pr)(M:Md)(n:Nat)(nK:List Int)(a1:List Int)(n1:Int)(k:Int×(List Int)→Option (List Int))(self:Int×(List Int)→Option (List Int))(st:Int×(List Int)):Option (List Int):=
 match st with
 |(z2,l3)=>
 bif (I.aV z2 n1)then
  (gI a1 z2).bind fun x4=>
  (gI nK x4).bind fun x5=>
  (aI 8 l3 x5).bind fun l6=>
  self ((I.wrap .i64 (I.add z2 1)),l6)
 else
  k (z2,l3)
def iZ(I:Pr)(M:Md)(n:Nat)(nN:ByteArray)(nM:Int)(nL:Int)(nK:List Int)(a1:List Int):Option (List Int):=
 (some (aq a1)).bind fun n1=>
 iter (mr I M n nK a1 n1 (fun(z7,l8)=>
  some l8)) n (0,[])
def mo(I:Pr)(M:Md)(n:Nat)(nK:List Int)(a1:List Int)(n1:Int)(k:Int×(List Int)→Option (List Int))(self:Int×(List Int)→Option (List Int))(st:Int×(List Int)):Option (List Int):=
 match st with
 |(z2,l3)=>
 bif (I.aV z2 n1)then
  (gI a1 z2).bind fun x4=>
  (gI nK x4).bind fun x5=>
  (aI 8 l3 x5).bind fun l6=>
  self ((I.wrap .i64 (I.add z2 1)),l6)
 else
  k (z2,l3)
def oa(I:Pr)(M:Md)(n:Nat)(nN:ByteArray)(nM:Int)(ER:List aL)(nL:Int)(nK:List Int)(lh:ah)(a1:List Int):Option (List Int):=
 (some (aq a1)).bind fun n1=>
 iter (mo I M n nK a1 n1 (fun(z7,l8)=>
  some l8)) n (0,[])
def ka(I:Pr)(M:Md)(n:Nat)(ud:List aL)(n69:Int)(uZ:List Int)(k:(List aL)×(List Int)×Int→Option ((List aL)×(List Int)))(self:(List aL)×(List Int)×Int→Option ((List aL)×(List Int)))(st:(List aL)×(List Int)×Int):Option ((List aL)×(List Int)):=
 match st with
 |(M7,Ii,NQ)=>
 bif (I.aV NQ n69)then
  (gI ud NQ).bind fun Ca=>
  bif (I.aJ Ca.kind 1)then
  (gI uZ Ca.num).bind fun ZR=>
  (aI 8 Ii ZR).bind fun XH=>
  self (M7,XH,(I.wrap .i64 (I.add NQ 1)))
  else
  bif (I.aJ Ca.kind 2)then
   (gI uZ 0).bind fun ZQ=>
   (gI M7 ZQ).bind fun x77=>
   (gI x77.args Ca.num).bind fun x78=>
   (aI 8 Ii x78).bind fun l79=>
   self (M7,l79,(I.wrap .i64 (I.add NQ 1)))
  else
   (
   (iZ I M n ⟨#[]⟩ 0 0 Ii Ca.args).bind fun y82=>
   (some (aq y82)).bind fun Vu=>
   (vc 8 Vu 0).bind fun BK=>
   (some (lQ (M.ln BK) y82 BK)).bind fun CV=>
   (some (oK (M.ln BK) y82)).bind fun n86=>
   bif (I.aJ Vu 0)then
    (aI 56 M7 (⟨Ca.kind,Ca.name,Ca.num,[]⟩:aL)).bind fun l87=>
    (some (aq l87)).bind fun n88=>
    some ((I.wrap .i64 (I.sub n88 1)),l87)
   else
    (dM (M.ln BK) CV).bind fun u89=>
    (aI 56 M7 (⟨Ca.kind,Ca.name,Ca.num,CV⟩:aL)).bind fun l90=>
    (some (aq l90)).bind fun n91=>
    some ((I.wrap .i64 (I.sub n91 1)),l90)).bind fun(j80,j81)=>
   (aI 8 Ii j80).bind fun l92=>
   self (j81,l92,(I.wrap .i64 (I.add NQ 1)))
 else
  k (M7,Ii,NQ)
def kb(I:Pr)(M:Md)(n:Nat)(ud:List aL)(Xx:Int)(k:Int×Int→Option ((List aL)×(List Int)))(self:Int×Int→Option ((List aL)×(List Int)))(st:Int×Int):Option ((List aL)×(List Int)):=
 match st with
 |(Q9,QJ)=>
 bif (I.aV QJ Xx)then
  (gI ud QJ).bind fun x53=>
  bif (I.aJ x53.kind 3)then
  self ((I.wrap .i64 (I.add Q9 1)),(I.wrap .i64 (I.add QJ 1)))
  else
  self (Q9,(I.wrap .i64 (I.add QJ 1)))
 else
  k (Q9,QJ)
def j7(I:Pr)(M:Md)(n:Nat)(k:Unit→Option ((List aL)×(List Int)))(self:Unit→Option ((List aL)×(List Int)))(st:Unit):Option ((List aL)×(List Int)):=
 match st with
 |()=>
 k ()
def j8(I:Pr)(M:Md)(n:Nat)(k:Unit→Option ((List aL)×(List Int)))(self:Unit→Option ((List aL)×(List Int)))(st:Unit):Option ((List aL)×(List Int)):=
 match st with
 |()=>
 k ()
def pg(I:Pr)(M:Md)(n:Nat)(a0:ah)(aW:ah)(Xz:Int)(dR:ae)(ea:Int)(eh:Int)(k:(List aL)×(List Int)×Int→Option ah)(self:(List aL)×(List Int)×Int→Option ah)(st:(List aL)×(List Int)×Int):Option ah:=
 match st with
 |(py,tY,yE)=>
 bif (I.aV yE Xz)then
  (gI dR.ops yE).bind fun fu=>
  (
  (oa I M n dR.head dR.kids py 0 tY (⟨aW.blocks⟩:ah) fu.args).bind fun uZ=>
  (fc I M n fu).bind fun Vo=>
  bif Vo then
   (
   (tR I M n (⟨aW.blocks⟩:ah) fu.name).bind fun B8=>
   (gI B8.ag 0).bind fun Po=>
   (mw I M n B8).bind fun QM=>
   some (QM,Po.head,Po.kids,Po.ops,Po.result)).bind fun(Kx,Qd,Fw,ud,Ci)=>
   (gN 2 0).bind fun k43=>
   (gK ([ea,eh]) k43).bind fun LM=>
   (gI a0.blocks LM).bind fun x45=>
   (gN 2 1).bind fun k46=>
   (gK ([ea,eh]) k46).bind fun LL=>
   (gI x45.ag LL).bind fun ZT=>
   (some (aq ZT.ops)).bind fun TA=>
   (some (aq ud)).bind fun Xx=>
   iter (kb I M n ud Xx (fun(z54,z55)=>
    (some (aq py)).bind fun n56=>
    (cJ (I.not Kx) false (my I M n ([n56,z54,(I.wrap .i64 (I.sub (I.wrap .i64 (I.sub TA yE)) 1))])) default).bind fun y57=>
    bif (I.pick (I.not Kx) true (I.aV 60 y57))then
    (some (aq uZ)).bind fun Tz=>
    (vc 8 Tz 0).bind fun Ks=>
    (some (lQ (M.ln Ks) uZ Ks)).bind fun Oz=>
    (some (oK (M.ln Ks) uZ)).bind fun Xw=>
    bif (I.aJ Tz 0)then
     (aI 56 py (⟨fu.kind,fu.name,fu.num,[]⟩:aL)).bind fun M8=>
     (some (aq M8)).bind fun MX=>
     (aI 8 tY (I.wrap .i64 (I.sub MX 1))).bind fun P5=>
     some (M8,P5)
    else
     (dM (M.ln Ks) Oz).bind fun u65=>
     (aI 56 py (⟨fu.kind,fu.name,fu.num,Oz⟩:aL)).bind fun Ls=>
     (some (aq Ls)).bind fun n67=>
     (aI 8 tY (I.wrap .i64 (I.sub n67 1))).bind fun l68=>
     some (Ls,l68)
    else
    (some (aq ud)).bind fun n69=>
    iter (ka I M n ud n69 uZ (fun(l93,l94,z95)=>
     (gI l94 Ci).bind fun x96=>
     (aI 8 tY x96).bind fun l97=>
     some (l93,l97))) n (py,[],0))) n (0,0)
  else
   (gN 2 0).bind fun k98=>
   (gK ([ea,eh]) k98).bind fun x99=>
   (gI a0.blocks x99).bind fun abm=>
   (gN 2 1).bind fun aeA=>
   (gK ([ea,eh]) aeA).bind fun abl=>
   (gI abm.ag abl).bind fun abk=>
   (some (aq abk.ops)).bind fun TL=>
   iter (j8 I M n (fun _=>
    (some (aq py)).bind fun Ie=>
    (cJ (I.not false) false (my I M n ([Ie,0,(I.wrap .i64 (I.sub (I.wrap .i64 (I.sub TL yE)) 1))])) default).bind fun abc=>
    bif (I.pick (I.not false) true (I.aV 60 abc))then
    (some (aq uZ)).bind fun XD=>
    (vc 8 XD 0).bind fun Kv=>
    (some (lQ (M.ln Kv) uZ Kv)).bind fun Qc=>
    (some (oK (M.ln Kv) uZ)).bind fun aiM=>
    bif (I.aJ XD 0)then
     (aI 56 py (⟨fu.kind,fu.name,fu.num,[]⟩:aL)).bind fun Ku=>
     (some (aq Ku)).bind fun TJ=>
     (aI 8 tY (I.wrap .i64 (I.sub TJ 1))).bind fun aeq=>
     some (Ku,aeq)
    else
     (dM (M.ln Kv) Qc).bind fun ahI=>
     (aI 56 py (⟨fu.kind,fu.name,fu.num,Qc⟩:aL)).bind fun XN=>
     (some (aq XN)).bind fun TH=>
     (aI 8 tY (I.wrap .i64 (I.sub TH 1))).bind fun aep=>
     some (XN,aep)
    else
    iter (j7 I M n (fun _=>
     none)) n ())) n ()).bind fun(T0,j32)=>
  self (T0,j32,(I.wrap .i64 (I.add yE 1)))
 else
  k (py,tY,yE)
def ph(I:Pr)(M:Md)(n:Nat)(a0:ah)(aW:ah)(l9:List aj)(DZ:Int)(yB:aj)(ea:Int)(k:(List Int)×(List aj)×Int→Option ah)(self:(List Int)×(List aj)×Int→Option ah)(st:(List Int)×(List aj)×Int):Option ah:=
 match st with
 |(tw,qQ,eh)=>
 bif (I.aV eh DZ)then
  (gI yB.ag eh).bind fun dR=>
  (some (List.replicate 2 (0:Int))).bind fun vQ=>
  (lW 2 vQ).bind fun VY=>
  (lW 2 ([ea,eh])).bind fun Pv=>
  (lW 2 ([ea,eh])).bind fun u24=>
  (lW 2 tw).bind fun ZY=>
  (some (aq dR.ops)).bind fun Xz=>
  iter (pg I M n a0 aW Xz dR ea eh (fun(aoc,aob,z120)=>
   (gI aob dR.result).bind fun abf=>
   (gN 2 0).bind fun aja=>
   (gK ([ea,eh]) aja).bind fun ahD=>
   (gN (M.ln l9) ahD).bind fun aex=>
   (gK qQ aex).bind fun VW=>
   (aI 56 VW.ag (⟨dR.head,dR.kids,aoc,abf⟩:ae)).bind fun ai1=>
   (gg qQ aex (⟨VW.name,VW.arity,ai1⟩:aj)).bind fun P9=>
   self ([ea,eh],P9,(I.wrap .i64 (I.add eh 1))))) n ([],[],0)
 else
  k (tw,qQ,eh)
def pj(I:Pr)(M:Md)(n:Nat)(a0:ah)(aW:ah)(l9:List aj)(uU:Int)(k:(List Int)×(List aj)×Int→Option ah)(self:(List Int)×(List aj)×Int→Option ah)(st:(List Int)×(List aj)×Int):Option ah:=
 match st with
 |(iq,xi,ea)=>
 bif (I.aV ea uU)then
  (gI a0.blocks ea).bind fun yB=>
  (some (aq yB.ag)).bind fun DZ=>
  iter (ph I M n a0 aW l9 DZ yB ea (fun(aoa,P8,z130)=>
   self (aoa,P8,(I.wrap .i64 (I.add ea 1))))) n (iq,xi,0)
 else
  k (iq,xi,ea)
def pk(I:Pr)(M:Md)(n:Nat)(a0:ah)(n2:Int)(k:(List aj)×Int→Option ah)(self:(List aj)×Int→Option ah)(st:(List aj)×Int):Option ah:=
 match st with
 |(l5,z6)=>
 bif (I.aV z6 n2)then
  (gI a0.blocks z6).bind fun x7=>
  (aI 48 l5 (⟨x7.name,x7.arity,[]⟩:aj)).bind fun l8=>
  self (l8,(I.wrap .i64 (I.add z6 1)))
 else
  k (l5,z6)
def rv(I:Pr)(M:Md)(n:Nat)(a0:ah)(aW:ah):Option ah:=
 (some (List.replicate 2 (0:Int))).bind fun l1=>
 (some (aq a0.blocks)).bind fun n2=>
 bif (I.aV 0 n2)then
 (gI a0.blocks 0).bind fun x3=>
 (aI 48 [] (⟨x3.name,x3.arity,[]⟩:aj)).bind fun l4=>
 iter (pk I M n a0 n2 (fun(l9,yF)=>
  (some (aq a0.blocks)).bind fun uU=>
  iter (pj I M n a0 aW l9 uU (fun(XL,XK,z133)=>
   (dM (M.ln l9) XK).bind fun amv=>
   some (⟨XK⟩:ah))) n (l1,l9,0))) n (l4,(I.wrap .i64 (I.add 0 1)))
 else
 none
def kH(I:Pr)(M:Md)(n:Nat)(a0:ah):Option (ah×Int):=
 (c4 I M n a0).bind fun y1=>
 bif (I.not (I.aJ y1 0))then
 some ((⟨[]⟩:ah),y1)
 else
 (rv I M n (⟨a0.blocks⟩:ah) (⟨a0.blocks⟩:ah)).bind fun y2=>
 some (y2,0)
def sB(I:Pr)(M:Md)(n:Nat)(n21:Int)(qS:ae)(k:(List aL)×(List Int)×Int→Option ah)(self:(List aL)×(List Int)×Int→Option ah)(st:(List aL)×(List Int)×Int):Option ah:=
 match st with
 |(QT,wU,QK)=>
 bif (I.aV QK n21)then
  (gI qS.ops QK).bind fun Ad=>
  (
  (
   (bw I M n qS.head qS.kids QT 0 wU Ad.args).bind fun EZ=>
   (some (aq EZ)).bind fun Xy=>
   (vc 8 Xy 0).bind fun Ij=>
   (some (lQ (M.ln Ij) EZ Ij)).bind fun Gv=>
   (some (oK (M.ln Ij) EZ)).bind fun n34=>
   bif (I.aJ Xy 0)then
   (aI 56 QT (⟨Ad.kind,Ad.name,Ad.num,[]⟩:aL)).bind fun l35=>
   (some (aq l35)).bind fun n36=>
   some ((I.wrap .i64 (I.sub n36 1)),l35)
   else
   (dM (M.ln Ij) Gv).bind fun u37=>
   (aI 56 QT (⟨Ad.kind,Ad.name,Ad.num,Gv⟩:aL)).bind fun l38=>
   (some (aq l38)).bind fun n39=>
   some ((I.wrap .i64 (I.sub n39 1)),l38)).bind fun(j28,XT)=>
  (aI 8 wU j28).bind fun l40=>
  some (XT,l40)).bind fun(j26,j27)=>
  self (j26,j27,(I.wrap .i64 (I.add QK 1)))
 else
  k (QT,wU,QK)
def sC(I:Pr)(M:Md)(n:Nat)(l8:List aj)(Kg:Int)(Bi:aj)(LC:Int)(k:(List aj)×Int→Option ah)(self:(List aj)×Int→Option ah)(st:(List aj)×Int):Option ah:=
 match st with
 |(xh,jW)=>
 bif (I.aV jW Kg)then
  (gI Bi.ag jW).bind fun qS=>
  (some (List.replicate 2 (0:Int))).bind fun qQ=>
  (lW 2 qQ).bind fun u19=>
  (lW 2 ([LC,jW])).bind fun u20=>
  (some (aq qS.ops)).bind fun n21=>
  iter (sB I M n n21 qS (fun(QS,Gu,z43)=>
   (gI Gu qS.result).bind fun LM=>
   (gN 2 0).bind fun k45=>
   (gK ([LC,jW]) k45).bind fun x46=>
   (gN (M.ln l8) x46).bind fun k47=>
   (gK xh k47).bind fun ZT=>
   (aI 56 ZT.ag (⟨qS.head,qS.kids,QS,LM⟩:ae)).bind fun TS=>
   (gg xh k47 (⟨ZT.name,ZT.arity,TS⟩:aj)).bind fun QQ=>
   self (QQ,(I.wrap .i64 (I.add jW 1))))) n ([],[],0)
 else
  k (xh,jW)
def sD(I:Pr)(M:Md)(n:Nat)(a0:ah)(l8:List aj)(Kh:Int)(k:(List aj)×Int→Option ah)(self:(List aj)×Int→Option ah)(st:(List aj)×Int):Option ah:=
 match st with
 |(I2,LC)=>
 bif (I.aV LC Kh)then
  (gI a0.blocks LC).bind fun Bi=>
  (some (aq Bi.ag)).bind fun Kg=>
  iter (sC I M n l8 Kg Bi LC (fun(Vx,QJ)=>
   self (Vx,(I.wrap .i64 (I.add LC 1))))) n (I2,0)
 else
  k (I2,LC)
def sE(I:Pr)(M:Md)(n:Nat)(a0:ah)(n1:Int)(k:(List aj)×Int→Option ah)(self:(List aj)×Int→Option ah)(st:(List aj)×Int):Option ah:=
 match st with
 |(l4,z5)=>
 bif (I.aV z5 n1)then
  (gI a0.blocks z5).bind fun x6=>
  (aI 48 l4 (⟨x6.name,x6.arity,[]⟩:aj)).bind fun l7=>
  self (l7,(I.wrap .i64 (I.add z5 1)))
 else
  k (l4,z5)
def vA(I:Pr)(M:Md)(n:Nat)(a0:ah):Option ah:=
 (some (aq a0.blocks)).bind fun n1=>
 bif (I.aV 0 n1)then
 (gI a0.blocks 0).bind fun x2=>
 (aI 48 [] (⟨x2.name,x2.arity,[]⟩:aj)).bind fun l3=>
 iter (sE I M n a0 n1 (fun(l8,z9)=>
  (some (aq a0.blocks)).bind fun Kh=>
  iter (sD I M n a0 l8 Kh (fun(l53,z54)=>
   (dM (M.ln l8) l53).bind fun u55=>
   some (⟨l53⟩:ah))) n (l8,0))) n (l3,(I.wrap .i64 (I.add 0 1)))
 else
 none
def DO(I:Pr)(M:Md)(n:Nat)(a0:ah):Option ah:=
 (vA I M n a0).bind fun y1=>
 some y1
def pv(I:Pr)(M:Md)(n:Nat)(a1:ah):Option ah:=
 (cd I M n a1).bind fun y1=>
 some y1.1
def pt(I:Pr)(M:Md)(n:Nat)(a1:ah):Option ah:=
 (kH I M n a1).bind fun y1=>
 some y1.1
def lH(I:Pr)(M:Md)(n:Nat)(a1:List Int)(n1:Int)(k:Int×(List Int)→Option (List Int))(self:Int×(List Int)→Option (List Int))(st:Int×(List Int)):Option (List Int):=
 match st with
 |(z2,l3)=>
 bif (I.aV z2 n1)then
  (gI a1 z2).bind fun x4=>
  none
 else
  k (z2,l3)
def uR(I:Pr)(M:Md)(n:Nat)(nN:ByteArray)(nM:Int)(nL:Int)(lh:ah)(a1:List Int):Option (List Int):=
 (some (aq a1)).bind fun n1=>
 iter (lH I M n a1 n1 (fun(z5,l6)=>
  some l6)) n (0,[])
def lG(I:Pr)(M:Md)(n:Nat)(nK:List Int)(a1:List Int)(n1:Int)(k:Int×(List Int)→Option (List Int))(self:Int×(List Int)→Option (List Int))(st:Int×(List Int)):Option (List Int):=
 match st with
 |(z2,l3)=>
 bif (I.aV z2 n1)then
  (gI a1 z2).bind fun x4=>
  (gI nK x4).bind fun x5=>
  (aI 8 l3 x5).bind fun l6=>
  self ((I.wrap .i64 (I.add z2 1)),l6)
 else
  k (z2,l3)
def nk(I:Pr)(M:Md)(n:Nat)(nN:ByteArray)(nM:Int)(ER:List aL)(nL:Int)(nK:List Int)(lh:ah)(a1:List Int):Option (List Int):=
 (some (aq a1)).bind fun n1=>
 iter (lG I M n nK a1 n1 (fun(z7,l8)=>
  some l8)) n (0,[])
def j5(I:Pr)(M:Md)(n:Nat)(MY:Int)(LM:aL)(B8:aj)(k:Int×Bool×ByteArray×Int×(List aL)×Int→Option (Bool×ByteArray×Int×(List aL)×Int))(k2:Int→Option (Bool×ByteArray×Int×(List aL)×Int))(self:Int→Option (Bool×ByteArray×Int×(List aL)×Int))(Ph:Int):Option (Bool×ByteArray×Int×(List aL)×Int):=
 bif (I.aV Ph MY)then
  (gI B8.ag Ph).bind fun LL=>
  (some (aq LM.args)).bind fun Lr=>
  bif (I.pick (I.pick (I.aJ LM.kind 3) (I.seq LL.head LM.name) false) (I.aJ LL.kids Lr) false)then
  (tQ I M n LL).bind fun VP=>
  k (Ph,VP,LL.head,LL.kids,LL.ops,LL.result)
  else
  self (I.wrap .i64 (I.add Ph 1))
 else
  k2 Ph
def j0(I:Pr)(M:Md)(n:Nat)(ud:List aL)(Vu:Int)(uZ:List Int)(k:(List aL)×(List Int)×Int→Option ((List aL)×(List Int)))(self:(List aL)×(List Int)×Int→Option ((List aL)×(List Int)))(st:(List aL)×(List Int)×Int):Option ((List aL)×(List Int)):=
 match st with
 |(BK,CV,Lo)=>
 bif (I.aV Lo Vu)then
  (gI ud Lo).bind fun B9=>
  bif (I.aJ B9.kind 1)then
  (gI uZ B9.num).bind fun ZP=>
  (aI 8 CV ZP).bind fun l89=>
  self (BK,l89,(I.wrap .i64 (I.add Lo 1)))
  else
  bif (I.aJ B9.kind 2)then
   (gI uZ 0).bind fun x90=>
   (gI BK x90).bind fun x91=>
   (gI x91.args B9.num).bind fun x92=>
   (aI 8 CV x92).bind fun l93=>
   self (BK,l93,(I.wrap .i64 (I.add Lo 1)))
  else
   (
   (iZ I M n ⟨#[]⟩ 0 0 CV B9.args).bind fun y96=>
   (some (aq y96)).bind fun n97=>
   (vc 8 n97 0).bind fun l98=>
   (some (lQ (M.ln l98) y96 l98)).bind fun l99=>
   (some (oK (M.ln l98) y96)).bind fun aiN=>
   bif (I.aJ n97 0)then
    (aI 56 BK (⟨B9.kind,B9.name,B9.num,[]⟩:aL)).bind fun XP=>
    (some (aq XP)).bind fun aeh=>
    some ((I.wrap .i64 (I.sub aeh 1)),XP)
   else
    (dM (M.ln l98) l99).bind fun ahJ=>
    (aI 56 BK (⟨B9.kind,B9.name,B9.num,l99⟩:aL)).bind fun XO=>
    (some (aq XO)).bind fun Ie=>
    some ((I.wrap .i64 (I.sub Ie 1)),XO)).bind fun(j94,j95)=>
   (aI 8 CV j94).bind fun aer=>
   self (j95,aer,(I.wrap .i64 (I.add Lo 1)))
 else
  k (BK,CV,Lo)
def j4(I:Pr)(M:Md)(n:Nat)(ud:List aL)(n64:Int)(k:Int×Int→Option ((List aL)×(List Int)))(self:Int×Int→Option ((List aL)×(List Int)))(st:Int×Int):Option ((List aL)×(List Int)):=
 match st with
 |(QI,QH)=>
 bif (I.aV QH n64)then
  (gI ud QH).bind fun x67=>
  bif (I.aJ x67.kind 3)then
  self ((I.wrap .i64 (I.add QI 1)),(I.wrap .i64 (I.add QH 1)))
  else
  self (QI,(I.wrap .i64 (I.add QH 1)))
 else
  k (QI,QH)
def jd(I:Pr)(M:Md)(n:Nat)(k:Unit→Option ((List aL)×(List Int)))(self:Unit→Option ((List aL)×(List Int)))(st:Unit):Option ((List aL)×(List Int)):=
 match st with
 |()=>
 k ()
def jZ(I:Pr)(M:Md)(n:Nat)(k:Unit→Option ((List aL)×(List Int)))(self:Unit→Option ((List aL)×(List Int)))(st:Unit):Option ((List aL)×(List Int)):=
 match st with
 |()=>
 k ()
def pb(I:Pr)(M:Md)(n:Nat)(a0:ah)(aW:ah)(Xz:Int)(dR:ae)(ea:Int)(eh:Int)(k:(List aL)×(List Int)×Int→Option ah)(self:(List aL)×(List Int)×Int→Option ah)(st:(List aL)×(List Int)×Int):Option ah:=
 match st with
 |(py,tY,yE)=>
 bif (I.aV yE Xz)then
  (gI dR.ops yE).bind fun fu=>
  (
  (nk I M n dR.head dR.kids py 0 tY aW fu.args).bind fun uZ=>
  (fc I M n fu).bind fun Vo=>
  bif Vo then
   (
   (tR I M n aW fu.name).bind fun B8=>
   (gI B8.ag 0).bind fun Po=>
   bif (I.seq Po.head (⟨#[]⟩:ByteArray))then
    some (false,⟨#[]⟩,0,[],0)
   else
    (gI fu.args 0).bind fun x42=>
    (gI tY x42).bind fun x43=>
    (gI py x43).bind fun LM=>
    (some (aq B8.ag)).bind fun MY=>
    iter (j5 I M n MY LM B8 (fun(z50,y51,Ja,VO,OA,y55)=>
     some (y51,Ja,VO,OA,y55)) (fun z56=>
     some (false,⟨#[]⟩,0,[],0))) n 0).bind fun(Kx,Qd,Fw,ud,Ci)=>
   (gN 2 0).bind fun TY=>
   (gK ([ea,eh]) TY).bind fun Vr=>
   (gI a0.blocks Vr).bind fun qP=>
   (gN 2 1).bind fun k60=>
   (gK ([ea,eh]) k60).bind fun x61=>
   (gI qP.ag x61).bind fun x62=>
   (some (aq x62.ops)).bind fun MX=>
   (some (aq ud)).bind fun n64=>
   iter (j4 I M n ud n64 (fun(z68,z69)=>
    (some (aq py)).bind fun n70=>
    (cJ (I.not Kx) false (my I M n ([n70,z68,(I.wrap .i64 (I.sub (I.wrap .i64 (I.sub MX yE)) 1))])) default).bind fun y71=>
    bif (I.pick (I.not Kx) true (I.aV 60 y71))then
    (some (aq uZ)).bind fun n72=>
    (vc 8 n72 0).bind fun TQ=>
    (some (lQ (M.ln TQ) uZ TQ)).bind fun XI=>
    (some (oK (M.ln TQ) uZ)).bind fun n75=>
    bif (I.aJ n72 0)then
     (aI 56 py (⟨fu.kind,fu.name,fu.num,[]⟩:aL)).bind fun XG=>
     (some (aq XG)).bind fun Vv=>
     (aI 8 tY (I.wrap .i64 (I.sub Vv 1))).bind fun Ih=>
     some (XG,Ih)
    else
     (dM (M.ln TQ) XI).bind fun u79=>
     (aI 56 py (⟨fu.kind,fu.name,fu.num,XI⟩:aL)).bind fun l80=>
     (some (aq l80)).bind fun n81=>
     (aI 8 tY (I.wrap .i64 (I.sub n81 1))).bind fun l82=>
     some (l80,l82)
    else
    (some (aq ud)).bind fun Vu=>
    iter (j0 I M n ud Vu uZ (fun(aod,Kv,z109)=>
     (gI Kv Ci).bind fun Rh=>
     (aI 8 tY Rh).bind fun Ku=>
     some (aod,Ku))) n (py,[],0))) n (0,0)
  else
   (gN 2 0).bind fun aez=>
   (gK ([ea,eh]) aez).bind fun abj=>
   (gI a0.blocks abj).bind fun abi=>
   (gN 2 1).bind fun aey=>
   (gK ([ea,eh]) aey).bind fun abh=>
   (gI abi.ag abh).bind fun abg=>
   (some (aq abg.ops)).bind fun TG=>
   iter (jZ I M n (fun _=>
    (some (aq py)).bind fun TF=>
    (cJ (I.not false) false (my I M n ([TF,0,(I.wrap .i64 (I.sub (I.wrap .i64 (I.sub TG yE)) 1))])) default).bind fun abb=>
    bif (I.pick (I.not false) true (I.aV 60 abb))then
    (some (aq uZ)).bind fun XC=>
    (vc 8 XC 0).bind fun Qb=>
    (some (lQ (M.ln Qb) uZ Qb)).bind fun Qa=>
    (some (oK (M.ln Qb) uZ)).bind fun aiL=>
    bif (I.aJ XC 0)then
     (aI 56 py (⟨fu.kind,fu.name,fu.num,[]⟩:aL)).bind fun XM=>
     (some (aq XM)).bind fun TE=>
     (aI 8 tY (I.wrap .i64 (I.sub TE 1))).bind fun P9=>
     some (XM,P9)
    else
     (dM (M.ln Qb) Qa).bind fun ahH=>
     (aI 56 py (⟨fu.kind,fu.name,fu.num,Qa⟩:aL)).bind fun P8=>
     (some (aq P8)).bind fun TD=>
     (aI 8 tY (I.wrap .i64 (I.sub TD 1))).bind fun XL=>
     some (P8,XL)
    else
    iter (jd I M n (fun _=>
     none)) n ())) n ()).bind fun(T0,j32)=>
  self (T0,j32,(I.wrap .i64 (I.add yE 1)))
 else
  k (py,tY,yE)
def pc(I:Pr)(M:Md)(n:Nat)(a0:ah)(aW:ah)(l9:List aj)(DZ:Int)(yB:aj)(ea:Int)(k:(List Int)×(List aj)×Int→Option ah)(self:(List Int)×(List aj)×Int→Option ah)(st:(List Int)×(List aj)×Int):Option ah:=
 match st with
 |(tw,qQ,eh)=>
 bif (I.aV eh DZ)then
  (gI yB.ag eh).bind fun dR=>
  (some (List.replicate 2 (0:Int))).bind fun vQ=>
  (lW 2 vQ).bind fun VY=>
  (lW 2 ([ea,eh])).bind fun Pv=>
  (lW 2 ([ea,eh])).bind fun u24=>
  (lW 2 tw).bind fun ZY=>
  (some (aq dR.ops)).bind fun Xz=>
  iter (pb I M n a0 aW Xz dR ea eh (fun(XK,an9,z134)=>
   (gI an9 dR.result).bind fun abe=>
   (gN 2 0).bind fun ai9=>
   (gK ([ea,eh]) ai9).bind fun ahC=>
   (gN (M.ln l9) ahC).bind fun aew=>
   (gK qQ aew).bind fun VV=>
   (aI 56 VV.ag (⟨dR.head,dR.kids,XK,abe⟩:ae)).bind fun ai0=>
   (gg qQ aew (⟨VV.name,VV.arity,ai0⟩:aj)).bind fun aiZ=>
   self ([ea,eh],aiZ,(I.wrap .i64 (I.add eh 1))))) n ([],[],0)
 else
  k (tw,qQ,eh)
def pd(I:Pr)(M:Md)(n:Nat)(a0:ah)(aW:ah)(l9:List aj)(uU:Int)(k:(List Int)×(List aj)×Int→Option ah)(self:(List Int)×(List aj)×Int→Option ah)(st:(List Int)×(List aj)×Int):Option ah:=
 match st with
 |(iq,xi,ea)=>
 bif (I.aV ea uU)then
  (gI a0.blocks ea).bind fun yB=>
  (some (aq yB.ag)).bind fun DZ=>
  iter (pc I M n a0 aW l9 DZ yB ea (fun(an8,an7,z144)=>
   self (an8,an7,(I.wrap .i64 (I.add ea 1))))) n (iq,xi,0)
 else
  k (iq,xi,ea)
def pf(I:Pr)(M:Md)(n:Nat)(a0:ah)(n2:Int)(k:(List aj)×Int→Option ah)(self:(List aj)×Int→Option ah)(st:(List aj)×Int):Option ah:=
 match st with
 |(l5,z6)=>
 bif (I.aV z6 n2)then
  (gI a0.blocks z6).bind fun x7=>
  (aI 48 l5 (⟨x7.name,x7.arity,[]⟩:aj)).bind fun l8=>
  self (l8,(I.wrap .i64 (I.add z6 1)))
 else
  k (l5,z6)
def ru(I:Pr)(M:Md)(n:Nat)(a0:ah)(aW:ah):Option ah:=
 (some (List.replicate 2 (0:Int))).bind fun l1=>
 (some (aq a0.blocks)).bind fun n2=>
 bif (I.aV 0 n2)then
 (gI a0.blocks 0).bind fun x3=>
 (aI 48 [] (⟨x3.name,x3.arity,[]⟩:aj)).bind fun l4=>
 iter (pf I M n a0 n2 (fun(l9,yF)=>
  (some (aq a0.blocks)).bind fun uU=>
  iter (pd I M n a0 aW l9 uU (fun(l145,aiY,z147)=>
   (dM (M.ln l9) aiY).bind fun amt=>
   some (⟨aiY⟩:ah))) n (l1,l9,0))) n (l4,(I.wrap .i64 (I.add 0 1)))
 else
 none
def gr(I:Pr)(M:Md)(n:Nat)(a0:ah):Option (ah×Int):=
 (c4 I M n a0).bind fun y1=>
 bif (I.not (I.aJ y1 0))then
 some ((⟨[]⟩:ah),y1)
 else
 (ru I M n a0 a0).bind fun y2=>
 some (y2,0)
def pq(I:Pr)(M:Md)(n:Nat)(a1:ah):Option ah:=
 (gr I M n (⟨a1.blocks⟩:ah)).bind fun y1=>
 some y1.1
def gd(I:Pr)(M:Md)(n:Nat)(a0:List Int)(a1:List Int)(n1:Int)(k:Int→Option Bool)(self:Int→Option Bool)(z3:Int):Option Bool:=
 bif (I.aV z3 n1)then
  (gI a0 z3).bind fun x4=>
  (gI a1 z3).bind fun x5=>
  bif (I.not (I.aJ x4 x5))then
  some false
  else
  self (I.wrap .i64 (I.add z3 1))
 else
  k z3
def dq(I:Pr)(M:Md)(n:Nat)(a0:List Int)(a1:List Int):Option Bool:=
 (some (aq a0)).bind fun n1=>
 (some (aq a1)).bind fun n2=>
 bif (I.not (I.aJ n1 n2))then
 some false
 else
 iter (gd I M n a0 a1 n1 (fun z6=>
  some true)) n 0
def eD(I:Pr)(M:Md)(n:Nat)(wU:List aL)(n33:Int)(rQ:aL)(VU:List Int)(Bg:List Int)(k:Int×Int→Option ((List (aP×List Int))×(List aL)×(List Int)))(k2:Int→Option ((List (aP×List Int))×(List aL)×(List Int)))(self:Int→Option ((List (aP×List Int))×(List aL)×(List Int)))(CI:Int):Option ((List (aP×List Int))×(List aL)×(List Int)):=
 bif (I.aV CI n33)then
  (gI VU CI).bind fun oP=>
  (gI wU oP).bind fun Hc=>
  (some (decide ((⟨Hc.kind,Hc.name,Hc.num⟩:aP)=(⟨rQ.kind,rQ.name,rQ.num⟩:aP)))).bind fun b37=>
  (cJ b37 true (dq I M n Hc.args Bg) default).bind fun Vn=>
  bif (I.pick b37 Vn false)then
  k (CI,oP)
  else
  self (I.wrap .i64 (I.add CI 1))
 else
  k2 CI
def fL(I:Pr)(M:Md)(n:Nat)(TB:Int)(xb:ae)(k:(List aL)×(List Int)×(List (aP×List Int))×Int→Option (ah×Int))(self:(List aL)×(List Int)×(List (aP×List Int))×Int→Option (ah×Int))(st:(List aL)×(List Int)×(List (aP×List Int))×Int):Option (ah×Int):=
 match st with
 |(wU,Lu,Kt,C8)=>
 bif (I.aV C8 TB)then
  (gI xb.ops C8).bind fun rQ=>
  (
  (bw I M n xb.head xb.kids wU 0 Lu rQ.args).bind fun Bg=>
  (some (jS Kt (⟨rQ.kind,rQ.name,rQ.num⟩:aP) [])).bind fun VU=>
  (some (aq VU)).bind fun n33=>
  iter (eD I M n wU n33 rQ VU Bg (fun(z39,B8)=>
   (aI 8 Lu B8).bind fun QS=>
   some (Kt,wU,QS)) (fun z42=>
   (some (aq Bg)).bind fun n43=>
   (vc 8 n43 0).bind fun Fu=>
   (some (lQ (M.ln Fu) Bg Fu)).bind fun OB=>
   (some (oK (M.ln Fu) Bg)).bind fun n46=>
   bif (I.aJ n43 0)then
    (aI 56 wU (⟨rQ.kind,rQ.name,rQ.num,[]⟩:aL)).bind fun P6=>
    (some (aq P6)).bind fun Lr=>
    (some (K4 Kt (⟨rQ.kind,rQ.name,rQ.num⟩:aP))).bind fun(QQ,k51,XJ)=>
    (aI 8 XJ (I.wrap .i64 (I.sub Lr 1))).bind fun OA=>
    (Hy QQ k51 OA).bind fun QP=>
    (aI 8 Lu (I.wrap .i64 (I.sub Lr 1))).bind fun M9=>
    some (QP,P6,M9)
   else
    (dM (M.ln Fu) OB).bind fun u57=>
    (aI 56 wU (⟨rQ.kind,rQ.name,rQ.num,OB⟩:aL)).bind fun l58=>
    (some (aq l58)).bind fun n59=>
    (some (K4 Kt (⟨rQ.kind,rQ.name,rQ.num⟩:aP))).bind fun(l61,XR,l63)=>
    (aI 8 l63 (I.wrap .i64 (I.sub n59 1))).bind fun P4=>
    (Hy l61 XR P4).bind fun Ls=>
    (aI 8 Lu (I.wrap .i64 (I.sub n59 1))).bind fun l67=>
    some (Ls,l58,l67))) n 0).bind fun(tY,XT,j30)=>
  self (XT,j30,tY,(I.wrap .i64 (I.add C8 1)))
 else
  k (wU,Lu,Kt,C8)
def fM(I:Pr)(M:Md)(n:Nat)(l9:List aj)(XB:Int)(vf:aj)(nu:Int)(k:(List aj)×Int→Option (ah×Int))(self:(List aj)×Int→Option (ah×Int))(st:(List aj)×Int):Option (ah×Int):=
 match st with
 |(Na,EY)=>
 bif (I.aV EY XB)then
  (gI vf.ag EY).bind fun xb=>
  (some (List.replicate 2 (0:Int))).bind fun Il=>
  (lW 2 Il).bind fun u20=>
  (lW 2 ([nu,EY])).bind fun u21=>
  (some (aq xb.ops)).bind fun TB=>
  iter (fL I M n TB xb (fun(l68,l69,M7,z71)=>
   (gI l69 xb.result).bind fun ZS=>
   (gN 2 0).bind fun k73=>
   (gK ([nu,EY]) k73).bind fun ZR=>
   (gN (M.ln l9) ZR).bind fun k75=>
   (gK Na k75).bind fun ZQ=>
   (aI 56 ZQ.ag (⟨xb.head,xb.kids,l68,ZS⟩:ae)).bind fun l77=>
   (gg Na k75 (⟨ZQ.name,ZQ.arity,l77⟩:aj)).bind fun Ih=>
   self (Ih,(I.wrap .i64 (I.add EY 1))))) n ([],[],([]:List (aP×List Int)),0)
 else
  k (Na,EY)
def fN(I:Pr)(M:Md)(n:Nat)(a0:ah)(l9:List aj)(uU:Int)(k:(List aj)×Int→Option (ah×Int))(self:(List aj)×Int→Option (ah×Int))(st:(List aj)×Int):Option (ah×Int):=
 match st with
 |(iq,nu)=>
 bif (I.aV nu uU)then
  (gI a0.blocks nu).bind fun vf=>
  (some (aq vf.ag)).bind fun XB=>
  iter (fM I M n l9 XB vf nu (fun(l79,z80)=>
   self (l79,(I.wrap .i64 (I.add nu 1))))) n (iq,0)
 else
  k (iq,nu)
def fO(I:Pr)(M:Md)(n:Nat)(a0:ah)(n2:Int)(k:(List aj)×Int→Option (ah×Int))(self:(List aj)×Int→Option (ah×Int))(st:(List aj)×Int):Option (ah×Int):=
 match st with
 |(l5,z6)=>
 bif (I.aV z6 n2)then
  (gI a0.blocks z6).bind fun x7=>
  (aI 48 l5 (⟨x7.name,x7.arity,[]⟩:aj)).bind fun l8=>
  self (l8,(I.wrap .i64 (I.add z6 1)))
 else
  k (l5,z6)
def fe(I:Pr)(M:Md)(n:Nat)(a0:ah):Option (ah×Int):=
 (c4 I M n a0).bind fun y1=>
 bif (I.not (I.aJ y1 0))then
 some ((⟨[]⟩:ah),y1)
 else
 (some (aq a0.blocks)).bind fun n2=>
 bif (I.aV 0 n2)then
  (gI a0.blocks 0).bind fun x3=>
  (aI 48 [] (⟨x3.name,x3.arity,[]⟩:aj)).bind fun l4=>
  iter (fO I M n a0 n2 (fun(l9,yF)=>
   (some (aq a0.blocks)).bind fun uU=>
   iter (fN I M n a0 l9 uU (fun(l81,z82)=>
    (dM (M.ln l9) l81).bind fun u83=>
    some ((⟨l81⟩:ah),0))) n (l9,0))) n (l4,(I.wrap .i64 (I.add 0 1)))
 else
  none
def po(I:Pr)(M:Md)(n:Nat)(a1:ah):Option ah:=
 (fe I M n (⟨a1.blocks⟩:ah)).bind fun y1=>
 some y1.1
def rL(I:Pr)(M:Md)(n:Nat)(a0:ah)(a1:Int)(a2:Int):Option (ae×Int):=
 (c4 I M n a0).bind fun y1=>
 bif (I.not (I.aJ y1 0))then
 some ((⟨⟨#[]⟩,0,[],0⟩:ae),y1)
 else
 (some (aq a0.blocks)).bind fun n2=>
 (cJ (I.pick (I.pick (I.aV a1 0) true (I.pK n2 a1)) true (I.aV a2 0)) false (gI a0.blocks a1) default).bind fun x3=>
 (some (aq x3.ag)).bind fun n4=>
 bif (I.pick (I.pick (I.pick (I.aV a1 0) true (I.pK n2 a1)) true (I.aV a2 0)) true (I.pK n4 a2))then
  some ((⟨⟨#[]⟩,0,[],0⟩:ae),1)
 else
  (gI a0.blocks a1).bind fun x5=>
  (gI x5.ag a2).bind fun x6=>
  some (x6,0)
def lP(I:Pr)(M:Md)(n:Nat)(l3:List Bool)(Kg:Int)(x9:aL)(k:(List Bool)×Int→Option ((List Bool)×Int))(self:(List Bool)×Int→Option ((List Bool)×Int))(st:(List Bool)×Int):Option ((List Bool)×Int):=
 match st with
 |(xh,jW)=>
 bif (I.aV jW Kg)then
  (gI x9.args jW).bind fun qS=>
  (gN (M.ln l3) qS).bind fun TZ=>
  (gK xh TZ).bind fun Hd=>
  (gg xh TZ true).bind fun TT=>
  self (TT,(I.wrap .i64 (I.add jW 1)))
 else
  k (xh,jW)
def oJ(I:Pr)(M:Md)(n:Nat)(l3:List Bool)(y1:ae×Int)(k:(List Bool)×Int→Option ((List Bool)×Int))(self:(List Bool)×Int→Option ((List Bool)×Int))(st:(List Bool)×Int):Option ((List Bool)×Int):=
 match st with
 |(l7,z8)=>
 bif (I.pK 0 z8)then
  (gI y1.1.ops z8).bind fun x9=>
  (gN (M.ln l3) z8).bind fun k10=>
  (gK l7 k10).bind fun FV=>
  (gg l7 k10 (I.pick (I.pick FV true (I.aJ x9.kind 4)) true (I.aJ x9.kind 5))).bind fun iq=>
  (gK iq k10).bind fun Bi=>
  bif Bi then
  (some (aq x9.args)).bind fun Kg=>
  iter (lP I M n l3 Kg x9 (fun(vQ,B7)=>
   self (vQ,(I.wrap .i64 (I.sub z8 1))))) n (iq,0)
  else
  self (iq,(I.wrap .i64 (I.sub z8 1)))
 else
  k (l7,z8)
def xa(I:Pr)(M:Md)(n:Nat)(a0:ah)(a1:Int)(a2:Int):Option ((List Bool)×Int):=
 (rL I M n a0 a1 a2).bind fun y1=>
 bif (I.not (I.aJ y1.2 0))then
 some ([],y1.2)
 else
 (some (aq y1.1.ops)).bind fun n2=>
 (vc 1 n2 false).bind fun l3=>
 (gN (M.ln l3) y1.1.result).bind fun k4=>
 (gK l3 k4).bind fun x5=>
 (gg l3 k4 true).bind fun l6=>
 iter (oJ I M n l3 y1 (fun(wU,QK)=>
  (dM (M.ln l3) wU).bind fun ZY=>
  some (wU,0))) n (l6,(I.wrap .i64 (I.sub n2 1)))
def ij(I:Pr)(M:Md)(n:Nat)(n29:Int)(dR:ae)(NS:(List Bool)×Int)(k:(List aL)×(List Int)×Int→Option (ah×Int))(self:(List aL)×(List Int)×Int→Option (ah×Int))(st:(List aL)×(List Int)×Int):Option (ah×Int):=
 match st with
 |(E8,Fv,C7)=>
 bif (I.aV C7 n29)then
  (gI dR.ops C7).bind fun FR=>
  (
  (gI NS.1 C7).bind fun Hc=>
  bif (I.not Hc)then
   (aI 8 Fv 0).bind fun l37=>
   some (E8,l37)
  else
   (
   (bw I M n dR.head dR.kids E8 0 Fv FR.args).bind fun B8=>
   (some (aq B8)).bind fun n41=>
   (vc 8 n41 0).bind fun Gu=>
   (some (lQ (M.ln Gu) B8 Gu)).bind fun Lt=>
   (some (oK (M.ln Gu) B8)).bind fun n44=>
   bif (I.aJ n41 0)then
    (aI 56 E8 (⟨FR.kind,FR.name,FR.num,[]⟩:aL)).bind fun OB=>
    (some (aq OB)).bind fun n46=>
    some ((I.wrap .i64 (I.sub n46 1)),OB)
   else
    (dM (M.ln Gu) Lt).bind fun u47=>
    (aI 56 E8 (⟨FR.kind,FR.name,FR.num,Lt⟩:aL)).bind fun QR=>
    (some (aq QR)).bind fun TA=>
    some ((I.wrap .i64 (I.sub TA 1)),QR)).bind fun(ud,Ci)=>
   (aI 8 Fv ud).bind fun QQ=>
   some (Ci,QQ)).bind fun(j34,Kx)=>
  self (j34,Kx,(I.wrap .i64 (I.add C7 1)))
 else
  k (E8,Fv,C7)
def ik(I:Pr)(M:Md)(n:Nat)(a0:ah)(l9:List aj)(DZ:Int)(yB:aj)(ea:Int)(k:(List Bool)×(List aj)×Int→Option (ah×Int))(self:(List Bool)×(List aj)×Int→Option (ah×Int))(st:(List Bool)×(List aj)×Int):Option (ah×Int):=
 match st with
 |(tw,qQ,eh)=>
 bif (I.aV eh DZ)then
  (gI yB.ag eh).bind fun dR=>
  (some (List.replicate 2 (0:Int))).bind fun vQ=>
  (lW 2 vQ).bind fun VY=>
  (lW 2 ([ea,eh])).bind fun Pv=>
  (gN 2 0).bind fun XS=>
  (gK ([ea,eh]) XS).bind fun Ad=>
  (gN 2 1).bind fun k26=>
  (gK ([ea,eh]) k26).bind fun rQ=>
  (xa I M n a0 Ad rQ).bind fun NS=>
  (some (aq dR.ops)).bind fun n29=>
  iter (ij I M n n29 dR NS (fun(Vx,XJ,z53)=>
   (gI XJ dR.result).bind fun x54=>
   (gN 2 0).bind fun k55=>
   (gK ([ea,eh]) k55).bind fun x56=>
   (gN (M.ln l9) x56).bind fun TY=>
   (gK qQ TY).bind fun Vr=>
   (aI 56 Vr.ag (⟨dR.head,dR.kids,Vx,x54⟩:ae)).bind fun Ks=>
   (gg qQ TY (⟨Vr.name,Vr.arity,Ks⟩:aj)).bind fun Oz=>
   self (NS.1,Oz,(I.wrap .i64 (I.add eh 1))))) n ([],[],0)
 else
  k (tw,qQ,eh)
def il(I:Pr)(M:Md)(n:Nat)(a0:ah)(l9:List aj)(uU:Int)(k:(List Bool)×(List aj)×Int→Option (ah×Int))(self:(List Bool)×(List aj)×Int→Option (ah×Int))(st:(List Bool)×(List aj)×Int):Option (ah×Int):=
 match st with
 |(iq,xi,ea)=>
 bif (I.aV ea uU)then
  (gI a0.blocks ea).bind fun yB=>
  (some (aq yB.ag)).bind fun DZ=>
  iter (ik I M n a0 l9 DZ yB ea (fun(l61,M8,z63)=>
   self (l61,M8,(I.wrap .i64 (I.add ea 1))))) n (iq,xi,0)
 else
  k (iq,xi,ea)
def im(I:Pr)(M:Md)(n:Nat)(a0:ah)(n2:Int)(k:(List aj)×Int→Option (ah×Int))(self:(List aj)×Int→Option (ah×Int))(st:(List aj)×Int):Option (ah×Int):=
 match st with
 |(l5,z6)=>
 bif (I.aV z6 n2)then
  (gI a0.blocks z6).bind fun x7=>
  (aI 48 l5 (⟨x7.name,x7.arity,[]⟩:aj)).bind fun l8=>
  self (l8,(I.wrap .i64 (I.add z6 1)))
 else
  k (l5,z6)
def je(I:Pr)(M:Md)(n:Nat)(a0:ah):Option (ah×Int):=
 (c4 I M n a0).bind fun y1=>
 bif (I.not (I.aJ y1 0))then
 some ((⟨[]⟩:ah),y1)
 else
 (some (aq a0.blocks)).bind fun n2=>
 bif (I.aV 0 n2)then
  (gI a0.blocks 0).bind fun x3=>
  (aI 48 [] (⟨x3.name,x3.arity,[]⟩:aj)).bind fun l4=>
  iter (im I M n a0 n2 (fun(l9,yF)=>
   (some (aq a0.blocks)).bind fun uU=>
   iter (il I M n a0 l9 uU (fun(P5,P4,QH)=>
    (dM (M.ln l9) P4).bind fun u67=>
    some ((⟨P4⟩:ah),0))) n ([],l9,0))) n (l4,(I.wrap .i64 (I.add 0 1)))
 else
  none
def pn(I:Pr)(M:Md)(n:Nat)(a1:ah):Option ah:=
 (je I M n (⟨a1.blocks⟩:ah)).bind fun y1=>
 some y1.1
def xC(I:Pr)(M:Md)(n:Nat)(uU:Int)(yC:ae)(k:(List Int)×Int→Option (List Int))(self:(List Int)×Int→Option (List Int))(st:(List Int)×Int):Option (List Int):=
 match st with
 |(iq,nu)=>
 bif (I.aV nu uU)then
  (gI yC.ops nu).bind fun vf=>
  bif (I.pick (I.aV vf.kind 1) true (I.aV 5 vf.kind))then
  (gN 6 0).bind fun k15=>
  (gK iq k15).bind fun x16=>
  (gg iq k15 (I.wrap .i64 (I.add x16 1))).bind fun tw=>
  self (tw,(I.wrap .i64 (I.add nu 1)))
  else
  (gN 6 vf.kind).bind fun TZ=>
  (gK iq TZ).bind fun Hd=>
  (gg iq TZ (I.wrap .i64 (I.add Hd 1))).bind fun TT=>
  self (TT,(I.wrap .i64 (I.add nu 1)))
 else
  k (iq,nu)
def xD(I:Pr)(M:Md)(n:Nat)(n7:Int)(x6:aj)(k:(List Int)×Int→Option (List Int))(self:(List Int)×Int→Option (List Int))(st:(List Int)×Int):Option (List Int):=
 match st with
 |(l8,z9)=>
 bif (I.aV z9 n7)then
  (gI x6.ag z9).bind fun yC=>
  (some (aq yC.ops)).bind fun uU=>
  iter (xC I M n uU yC (fun(vQ,B7)=>
   self (vQ,(I.wrap .i64 (I.add z9 1))))) n (l8,0)
 else
  k (l8,z9)
def xE(I:Pr)(M:Md)(n:Nat)(a0:ah)(n3:Int)(k:(List Int)×Int→Option (List Int))(self:(List Int)×Int→Option (List Int))(st:(List Int)×Int):Option (List Int):=
 match st with
 |(l4,z5)=>
 bif (I.aV z5 n3)then
  (gI a0.blocks z5).bind fun x6=>
  (some (aq x6.ag)).bind fun n7=>
  iter (xD I M n n7 x6 (fun(wU,QK)=>
   self (wU,(I.wrap .i64 (I.add z5 1))))) n (l4,0)
 else
  k (l4,z5)
def wx(I:Pr)(M:Md)(n:Nat)(a0:ah):Option (List Int):=
 (some (List.replicate 6 (0:Int))).bind fun l1=>
 (some (List.replicate 6 (0:Int))).bind fun l2=>
 (some (aq a0.blocks)).bind fun n3=>
 iter (xE I M n a0 n3 (fun(Kt,C8)=>
  (lW 6 Kt).bind fun u27=>
  (lW 6 l1).bind fun u28=>
  (lW 6 Kt).bind fun u29=>
  some Kt)) n (l2,0)
def BW(I:Pr)(M:Md)(n:Nat)(a0:aL)(a1:aL):Option Bool:=
 (cJ (I.pick (I.pick (I.aJ a0.kind a1.kind) (I.seq a0.name a1.name) false) (I.aJ a0.num a1.num) false) true (dq I M n a0.args a1.args) default).bind fun y1=>
 some (I.pick (I.pick (I.pick (I.aJ a0.kind a1.kind) (I.seq a0.name a1.name) false) (I.aJ a0.num a1.num) false) y1 false)
def ky(I:Pr)(M:Md)(n:Nat)(a0:List aL)(a1:List aL)(n1:Int)(k:Int→Option Bool)(self:Int→Option Bool)(z3:Int):Option Bool:=
 bif (I.aV z3 n1)then
  (gI a0 z3).bind fun x4=>
  (gI a1 z3).bind fun x5=>
  (BW I M n x4 x5).bind fun y6=>
  bif (I.not y6)then
  some false
  else
  self (I.wrap .i64 (I.add z3 1))
 else
  k z3
def me(I:Pr)(M:Md)(n:Nat)(a0:List aL)(a1:List aL):Option Bool:=
 (some (aq a0)).bind fun n1=>
 (some (aq a1)).bind fun n2=>
 bif (I.not (I.aJ n1 n2))then
 some false
 else
 iter (ky I M n a0 a1 n1 (fun z7=>
  some true)) n 0
def wz(I:Pr)(M:Md)(n:Nat)(a0:ae)(a1:ae):Option Bool:=
 (cJ (I.pick (I.pick (I.seq a0.head a1.head) (I.aJ a0.kids a1.kids) false) (I.aJ a0.result a1.result) false) true (me I M n a0.ops a1.ops) default).bind fun y1=>
 some (I.pick (I.pick (I.pick (I.seq a0.head a1.head) (I.aJ a0.kids a1.kids) false) (I.aJ a0.result a1.result) false) y1 false)
def gV(I:Pr)(M:Md)(n:Nat)(a0:List ae)(a1:List ae)(n1:Int)(k:Int→Option Bool)(self:Int→Option Bool)(z3:Int):Option Bool:=
 bif (I.aV z3 n1)then
  (gI a0 z3).bind fun x4=>
  (gI a1 z3).bind fun x5=>
  (wz I M n x4 x5).bind fun y6=>
  bif (I.not y6)then
  some false
  else
  self (I.wrap .i64 (I.add z3 1))
 else
  k z3
def iU(I:Pr)(M:Md)(n:Nat)(a0:List ae)(a1:List ae):Option Bool:=
 (some (aq a0)).bind fun n1=>
 (some (aq a1)).bind fun n2=>
 bif (I.not (I.aJ n1 n2))then
 some false
 else
 iter (gV I M n a0 a1 n1 (fun z7=>
  some true)) n 0
def wy(I:Pr)(M:Md)(n:Nat)(a0:aj)(a1:aj):Option Bool:=
 (cJ (I.pick (I.seq a0.name a1.name) (I.aJ a0.arity a1.arity) false) true (iU I M n a0.ag a1.ag) default).bind fun y1=>
 some (I.pick (I.pick (I.seq a0.name a1.name) (I.aJ a0.arity a1.arity) false) y1 false)
def iE(I:Pr)(M:Md)(n:Nat)(a0:List aj)(a1:List aj)(n1:Int)(k:Int→Option Bool)(self:Int→Option Bool)(z3:Int):Option Bool:=
 bif (I.aV z3 n1)then
  (gI a0 z3).bind fun x4=>
  (gI a1 z3).bind fun x5=>
  (wy I M n x4 x5).bind fun y6=>
  bif (I.not y6)then
  some false
  else
  self (I.wrap .i64 (I.add z3 1))
 else
  k z3
def jQ(I:Pr)(M:Md)(n:Nat)(a0:List aj)(a1:List aj):Option Bool:=
 (some (aq a0)).bind fun n1=>
 (some (aq a1)).bind fun n2=>
 bif (I.not (I.aJ n1 n2))then
 some false
 else
 iter (iE I M n a0 a1 n1 (fun z7=>
  some true)) n 0
def nH(I:Pr)(M:Md)(n:Nat)(a0:ah)(a1:ah):Option Bool:=
 (wx I M n (⟨a0.blocks⟩:ah)).bind fun y1=>
 (wx I M n (⟨a1.blocks⟩:ah)).bind fun y2=>
 (lW 6 y1).bind fun u3=>
 (lW 6 y2).bind fun u4=>
 (some (decide (y1=y2))).bind fun b5=>
 (cJ b5 true (jQ I M n a0.blocks a1.blocks) default).bind fun y6=>
 some (I.pick b5 y6 false)
def yY(I:Pr)(M:Md)(n:Nat)(k:(List aj)×Int×Int→Option (ah×Int×Int))(self:(List aj)×Int×Int→Option (ah×Int×Int))(st:(List aj)×Int×Int):Option (ah×Int×Int):=
 match st with
 |(l3,z4,z5)=>
 bif (I.aV z4 20)then
  (pv I M n (⟨l3⟩:ah)).bind fun y6=>
  (pt I M n y6).bind fun y7=>
  (pq I M n y7).bind fun y8=>
  (po I M n y8).bind fun y9=>
  (pn I M n y9).bind fun qO=>
  (nH I M n qO (⟨l3⟩:ah)).bind fun sm=>
  bif sm then
  k (l3,z4,z5)
  else
  self (qO.blocks,(I.wrap .i64 (I.add z4 1)),(I.wrap .i64 (I.add z5 1)))
 else
  k (l3,z4,z5)
def DQ(I:Pr)(M:Md)(n:Nat)(a0:ah):Option (ah×Int×Int):=
 (c4 I M n a0).bind fun y1=>
 bif (I.not (I.aJ y1 0))then
 some ((⟨[]⟩:ah),0,y1)
 else
 (DO I M n a0).bind fun y2=>
 iter (yY I M n (fun(iq,nu,ea)=>
  some ((⟨iq⟩:ah),ea,0))) n (y2.blocks,0,0)
def Kr(I:Pr)(M:Md)(n:Nat)(a0:ByteArray)(a1:Int)(a2:Int)(a3:List aL):Option ae:=
 some (⟨a0,a1,a3,a2⟩:ae)
def yf(I:Pr)(M:Md)(n:Nat):Option ah:=
 (bH I M n 2 (⟨#[]⟩:ByteArray) 0 []).bind fun y1=>
 (Kr I M n (⟨#[115]⟩:ByteArray) 1 0 ([y1])).bind fun y2=>
 (cp I M n (⟨#[102]⟩:ByteArray) 1 ([y2])).bind fun y3=>
 (bH I M n 3 (⟨#[97]⟩:ByteArray) 0 []).bind fun y4=>
 (bH I M n 3 (⟨#[115]⟩:ByteArray) 0 ([0])).bind fun y5=>
 (bH I M n 5 (⟨#[102]⟩:ByteArray) 0 ([1])).bind fun y6=>
 (cY I M n 2 ([y4,y5,y6])).bind fun y7=>
 (cp I M n (⟨#[103]⟩:ByteArray) 0 y7).bind fun y8=>
 (qw I M n ([y3,y8])).bind fun y9=>
 some y9
def rE(I:Pr)(M:Md)(n:Nat)(a0:List Int):Option (List Int):=
 (CA 8 [] a0).bind fun l1=>
 some l1
def lM(I:Pr)(M:Md)(n:Nat)(n9:Int)(x8:ae)(k:(List aL)×Int→Option ah)(self:(List aL)×Int→Option ah)(st:(List aL)×Int):Option ah:=
 match st with
 |(l10,FQ)=>
 bif (I.aV FQ n9)then
  (gI x8.ops FQ).bind fun u9=>
  (rE I M n u9.args).bind fun pW=>
  (aI 56 l10 (⟨u9.kind,u9.name,u9.num,pW⟩:aL)).bind fun OC=>
  self (OC,(I.wrap .i64 (I.add FQ 1)))
 else
  k (l10,FQ)
def lN(I:Pr)(M:Md)(n:Nat)(n5:Int)(x4:aj)(k:(List ae)×Int→Option ah)(self:(List ae)×Int→Option ah)(st:(List ae)×Int):Option ah:=
 match st with
 |(l6,z7)=>
 bif (I.aV z7 n5)then
  (gI x4.ag z7).bind fun x8=>
  (some (aq x8.ops)).bind fun n9=>
  iter (lM I M n n9 x8 (fun(xh,jW)=>
   (aI 56 l6 (⟨x8.head,x8.kids,xh,x8.result⟩:ae)).bind fun tw=>
   self (tw,(I.wrap .i64 (I.add z7 1))))) n ([],0)
 else
  k (l6,z7)
def oe(I:Pr)(M:Md)(n:Nat)(a0:ah)(n1:Int)(k:(List aj)×Int→Option ah)(self:(List aj)×Int→Option ah)(st:(List aj)×Int):Option ah:=
 match st with
 |(l2,z3)=>
 bif (I.aV z3 n1)then
  (gI a0.blocks z3).bind fun x4=>
  (some (aq x4.ag)).bind fun n5=>
  iter (lN I M n n5 x4 (fun(qQ,eh)=>
   (aI 48 l2 (⟨x4.name,x4.arity,qQ⟩:aj)).bind fun TT=>
   self (TT,(I.wrap .i64 (I.add z3 1))))) n ([],0)
 else
  k (l2,z3)
def nE(I:Pr)(M:Md)(n:Nat)(a0:ah):Option ah:=
 (some (aq a0.blocks)).bind fun n1=>
 iter (oe I M n a0 n1 (fun(vQ,B7)=>
  some (⟨vQ⟩:ah))) n ([],0)
def pT(I:Pr)(M:Md)(n:Nat)(a0:ah)(a1:ByteArray):Option (Int×Int):=
 (c4 I M n a0).bind fun y1=>
 bif (I.not (I.aJ y1 0))then
 some (0,y1)
 else
 (cK I M n a1 a0).bind fun y2=>
 bif (I.aV y2 0)then
  some (0,1)
 else
  some (y2,0)
def pa(I:Pr)(M:Md)(n:Nat)(a0:aL)(a1:aL)(a2:ah)(a3:List Int):Option Bool:=
 (cJ (I.pick (I.not (I.aJ a0.kind a1.kind)) true (I.not (I.aJ a0.num a1.num))) false (dq I M n a0.args a1.args) default).bind fun y1=>
 bif (I.pick (I.pick (I.not (I.aJ a0.kind a1.kind)) true (I.not (I.aJ a0.num a1.num))) true (I.not y1))then
 some false
 else
 (fc I M n a0).bind fun y2=>
 bif (I.not y2)then
  some (I.seq a0.name a1.name)
 else
  (pT I M n a2 a0.name).bind fun y3=>
  (pT I M n a2 a1.name).bind fun y4=>
  (lW 12 a3).bind fun u5=>
  (gI a3 y3.1).bind fun x6=>
  (gI a3 y4.1).bind fun x7=>
  some (I.aJ x6 x7)
def kx(I:Pr)(M:Md)(n:Nat)(a0:List aL)(a1:List aL)(wC:ah)(wB:List Int)(n1:Int)(k:Int→Option Bool)(self:Int→Option Bool)(z3:Int):Option Bool:=
 bif (I.aV z3 n1)then
  (gI a0 z3).bind fun x4=>
  (gI a1 z3).bind fun x5=>
  (pa I M n x4 x5 wC wB).bind fun y6=>
  bif (I.not y6)then
  some false
  else
  self (I.wrap .i64 (I.add z3 1))
 else
  k z3
def mc(I:Pr)(M:Md)(n:Nat)(a0:List aL)(a1:List aL)(wC:ah)(wB:List Int):Option Bool:=
 (some (aq a0)).bind fun n1=>
 (some (aq a1)).bind fun n2=>
 bif (I.not (I.aJ n1 n2))then
 some false
 else
 iter (kx I M n a0 a1 wC wB n1 (fun z7=>
  some true)) n 0
def qi(I:Pr)(M:Md)(n:Nat)(a0:ah)(a1:List Int)(a2:ae)(a3:ae):Option Bool:=
 (cJ (I.pick (I.pick (I.seq a2.head a3.head) (I.aJ a2.kids a3.kids) false) (I.aJ a2.result a3.result) false) true (mc I M n a2.ops a3.ops (⟨a0.blocks⟩:ah) a1) default).bind fun y1=>
 some (I.pick (I.pick (I.pick (I.seq a2.head a3.head) (I.aJ a2.kids a3.kids) false) (I.aJ a2.result a3.result) false) y1 false)
def uS(I:Pr)(M:Md)(n:Nat)(a0:ae)(a1:ae)(a2:ah)(a3:List Int):Option Bool:=
 (lW 12 a3).bind fun u1=>
 (qi I M n a2 a3 (⟨a0.head,a0.kids,a0.ops,a0.result⟩:ae) (⟨a1.head,a1.kids,a1.ops,a1.result⟩:ae)).bind fun y2=>
 some y2
def oR(I:Pr)(M:Md)(n:Nat)(a0:List ae)(a1:List ae)(wC:ah)(wB:List Int)(n1:Int)(k:Int→Option Bool)(self:Int→Option Bool)(z3:Int):Option Bool:=
 bif (I.aV z3 n1)then
  (gI a0 z3).bind fun x4=>
  (gI a1 z3).bind fun x5=>
  (uS I M n x4 x5 wC wB).bind fun y6=>
  bif (I.not y6)then
  some false
  else
  self (I.wrap .i64 (I.add z3 1))
 else
  k z3
def p9(I:Pr)(M:Md)(n:Nat)(a0:List ae)(a1:List ae)(wC:ah)(wB:List Int):Option Bool:=
 (some (aq a0)).bind fun n1=>
 (some (aq a1)).bind fun n2=>
 bif (I.not (I.aJ n1 n2))then
 some false
 else
 iter (oR I M n a0 a1 wC wB n1 (fun z7=>
  some true)) n 0
def xg(I:Pr)(M:Md)(n:Nat)(a0:aj)(a1:ah)(a2:List Int)(a3:Int)(a4:aj):Option Bool:=
 (pT I M n (⟨a1.blocks⟩:ah) a0.name).bind fun y1=>
 (lW 12 a2).bind fun u2=>
 (gI a2 y1.1).bind fun x3=>
 (gI a2 a3).bind fun x4=>
 (cJ (I.pick (I.aJ x3 x4) (I.aJ a0.arity a4.arity) false) true (p9 I M n a0.ag a4.ag (⟨a1.blocks⟩:ah) a2) default).bind fun y5=>
 some (I.pick (I.pick (I.aJ x3 x4) (I.aJ a0.arity a4.arity) false) y5 false)
def pD(I:Pr)(M:Md)(n:Nat)(a0:List aj)(aW:ah)(ri:List Int)(FN:Int)(FM:aj)(n1:Int)(k:Int→Option Int)(self:Int→Option Int)(z2:Int):Option Int:=
 bif (I.aV z2 n1)then
  (gI a0 z2).bind fun x3=>
  (xg I M n x3 aW ri FN FM).bind fun y4=>
  bif y4 then
  some z2
  else
  self (I.wrap .i64 (I.add z2 1))
 else
  k z2
def slices_IndexFunc_Block_v4(I:Pr)(M:Md)(n:Nat)(a0:List aj)(aW:ah)(ri:List Int)(FN:Int)(FM:aj):Option Int:=
 (some (aq a0)).bind fun n1=>
 iter (pD I M n a0 aW ri FN FM n1 (fun z5=>
  some (-1))) n 0
def nn(I:Pr)(M:Md)(n:Nat)(a0:ae)(a1:ae)(a2:ah)(a3:List Int):Option Bool:=
 (lW 12 a3).bind fun u1=>
 (qi I M n a2 a3 a0 a1).bind fun y2=>
 some y2
def gU(I:Pr)(M:Md)(n:Nat)(a0:List ae)(a1:List ae)(wC:ah)(wB:List Int)(n1:Int)(k:Int→Option Bool)(self:Int→Option Bool)(z3:Int):Option Bool:=
 bif (I.aV z3 n1)then
  (gI a0 z3).bind fun x4=>
  (gI a1 z3).bind fun x5=>
  (nn I M n x4 x5 wC wB).bind fun y6=>
  bif (I.not y6)then
  some false
  else
  self (I.wrap .i64 (I.add z3 1))
 else
  k z3
def iT(I:Pr)(M:Md)(n:Nat)(a0:List ae)(a1:List ae)(wC:ah)(wB:List Int):Option Bool:=
 (some (aq a0)).bind fun n1=>
 (some (aq a1)).bind fun n2=>
 bif (I.not (I.aJ n1 n2))then
 some false
 else
 iter (gU I M n a0 a1 wC wB n1 (fun z7=>
  some true)) n 0
def pw(I:Pr)(M:Md)(n:Nat)(a0:aj)(a1:ah)(a2:List Int)(a3:Int)(a4:aj):Option Bool:=
 (pT I M n a1 a0.name).bind fun y1=>
 (lW 12 a2).bind fun u2=>
 (gI a2 y1.1).bind fun x3=>
 (gI a2 a3).bind fun x4=>
 (cJ (I.pick (I.aJ x3 x4) (I.aJ a0.arity a4.arity) false) true (iT I M n a0.ag a4.ag (⟨a1.blocks⟩:ah) a2) default).bind fun y5=>
 some (I.pick (I.pick (I.aJ x3 x4) (I.aJ a0.arity a4.arity) false) y5 false)
def iA(I:Pr)(M:Md)(n:Nat)(a0:List aj)(aW:ah)(ri:List Int)(FN:Int)(FM:aj)(n1:Int)(k:Int→Option Int)(self:Int→Option Int)(z2:Int):Option Int:=
 bif (I.aV z2 n1)then
  (gI a0 z2).bind fun x3=>
  (pw I M n x3 aW ri FN FM).bind fun y4=>
  bif y4 then
  some z2
  else
  self (I.wrap .i64 (I.add z2 1))
 else
  k z2
def jN(I:Pr)(M:Md)(n:Nat)(a0:List aj)(aW:ah)(ri:List Int)(FN:Int)(FM:aj):Option Int:=
 (some (aq a0)).bind fun n1=>
 iter (iA I M n a0 aW ri FN FM n1 (fun z5=>
  some (-1))) n 0
def sF(I:Pr)(M:Md)(n:Nat)(a0:ah)(l3:List Int)(n5:Int)(k:(List Int)×Int→Option (List Int))(self:(List Int)×Int→Option (List Int))(st:(List Int)×Int):Option (List Int):=
 match st with
 |(l6,z7)=>
 bif (I.aV z7 n5)then
  (gI a0.blocks z7).bind fun x8=>
  (EC a0.blocks 0 (I.wrap .i64 (I.add z7 1))).bind fun l9=>
  (jN I M n l9 (⟨a0.blocks⟩:ah) l3 z7 x8).bind fun qO=>
  (gN 12 z7).bind fun k11=>
  (gK l6 k11).bind fun u9=>
  (gg l6 k11 qO).bind fun xi=>
  self (xi,(I.wrap .i64 (I.add z7 1)))
 else
  k (l6,z7)
def sG(I:Pr)(M:Md)(n:Nat)(a0:ah)(l1:List Int)(self:(List Int)→Option (List Int))(l3:(List Int)):Option (List Int):=
 (some (List.replicate 12 (0:Int))).bind fun l4=>
 (some (aq a0.blocks)).bind fun n5=>
 iter (sF I M n a0 l3 n5 (fun(OC,uP)=>
  (lW 12 OC).bind fun u16=>
  (lW 12 l3).bind fun u17=>
  (lW 12 OC).bind fun u18=>
  (lW 12 l3).bind fun u19=>
  (some (decide (OC=l3))).bind fun b20=>
  bif b20 then
   (lW 12 l3).bind fun u21=>
   (lW 12 l1).bind fun VY=>
   (lW 12 l3).bind fun Pv=>
   some l3
  else
   (lW 12 OC).bind fun u24=>
   (lW 12 l3).bind fun ZY=>
   self OC)) n (l4,0)
def ql(I:Pr)(M:Md)(n:Nat)(a0:ah):Option (List Int):=
 (some (List.replicate 12 (0:Int))).bind fun l1=>
 (some (List.replicate 12 (0:Int))).bind fun l2=>
 iter (sG I M n a0 l1) n l2
def vH(I:Pr)(M:Md)(n:Nat)(a0:ah):Option ((List Int)×Int):=
 (c4 I M n a0).bind fun y1=>
 bif (I.not (I.aJ y1 0))then
 some ([],y1)
 else
 (ql I M n (⟨a0.blocks⟩:ah)).bind fun y2=>
 (some (List.replicate 12 (0:Int))).bind fun l3=>
 (lW 12 l3).bind fun u4=>
 (some (aq a0.blocks)).bind fun n5=>
 (agF 12 n5 y2).bind fun j6=>
 (nz I M n (y2.take j6)).bind fun y7=>
 some (y7,0)
def vD(I:Pr)(M:Md)(n:Nat)(a0:ah)(n25:Int)(wJ:ae)(y2:List Int)(k:(List aL)×(List Int)×Int→Option (ah×Int))(self:(List aL)×(List Int)×Int→Option (ah×Int))(st:(List aL)×(List Int)×Int):Option (ah×Int):=
 match st with
 |(Ik,py,IZ)=>
 bif (I.aV IZ n25)then
  (gI wJ.ops IZ).bind fun pM=>
  (
  (fc I M n pM).bind fun Rb=>
  bif Rb then
   (pT I M n a0 pM.name).bind fun uZ=>
   (gN 12 uZ.1).bind fun k34=>
   (gK y2 k34).bind fun oP=>
   (gI a0.blocks oP).bind fun Hc=>
   (
   (bw I M n wJ.head wJ.kids Ik 0 py pM.args).bind fun NR=>
   (some (aq NR)).bind fun n40=>
   (vc 8 n40 0).bind fun QS=>
   (some (lQ (M.ln QS) NR QS)).bind fun Gu=>
   (some (oK (M.ln QS) NR)).bind fun n43=>
   bif (I.aJ n40 0)then
    (aI 56 Ik (⟨pM.kind,Hc.name,pM.num,[]⟩:aL)).bind fun Fu=>
    (some (aq Fu)).bind fun MY=>
    some ((I.wrap .i64 (I.sub MY 1)),Fu)
   else
    (dM (M.ln QS) Gu).bind fun u46=>
    (aI 56 Ik (⟨pM.kind,Hc.name,pM.num,Gu⟩:aL)).bind fun P6=>
    (some (aq P6)).bind fun Lr=>
    some ((I.wrap .i64 (I.sub Lr 1)),P6)).bind fun(Fw,ud)=>
   (aI 8 py Fw).bind fun TS=>
   some (ud,TS)
  else
   (
   (bw I M n wJ.head wJ.kids Ik 0 py pM.args).bind fun Ja=>
   (some (aq Ja)).bind fun n53=>
   (vc 8 n53 0).bind fun OA=>
   (some (lQ (M.ln OA) Ja OA)).bind fun QP=>
   (some (oK (M.ln OA) Ja)).bind fun n56=>
   bif (I.aJ n53 0)then
    (aI 56 Ik (⟨pM.kind,pM.name,pM.num,[]⟩:aL)).bind fun TR=>
    (some (aq TR)).bind fun Tz=>
    some ((I.wrap .i64 (I.sub Tz 1)),TR)
   else
    (dM (M.ln OA) QP).bind fun u59=>
    (aI 56 Ik (⟨pM.kind,pM.name,pM.num,QP⟩:aL)).bind fun Oz=>
    (some (aq Oz)).bind fun Xw=>
    some ((I.wrap .i64 (I.sub Xw 1)),Oz)).bind fun(j50,j51)=>
   (aI 8 py j50).bind fun M8=>
   some (j51,M8)).bind fun(j30,T0)=>
  self (j30,T0,(I.wrap .i64 (I.add IZ 1)))
 else
  k (Ik,py,IZ)
def vE(I:Pr)(M:Md)(n:Nat)(a0:ah)(iq:List aj)(QO:Int)(qS:aj)(y2:List Int)(jW:Int)(k:(List aj)×Int→Option (ah×Int))(self:(List aj)×Int→Option (ah×Int))(st:(List aj)×Int):Option (ah×Int):=
 match st with
 |(Il,Bf)=>
 bif (I.aV Bf QO)then
  (gI qS.ag Bf).bind fun wJ=>
  (some (List.replicate 2 (0:Int))).bind fun QT=>
  (lW 2 QT).bind fun Pv=>
  (lW 2 ([jW,Bf])).bind fun u24=>
  (some (aq wJ.ops)).bind fun n25=>
  iter (vD I M n a0 n25 wJ y2 (fun(l63,P5,QI)=>
   (gI P5 wJ.result).bind fun x66=>
   (gN 2 0).bind fun k67=>
   (gK ([jW,Bf]) k67).bind fun VT=>
   (gN (M.ln iq) VT).bind fun Vy=>
   (gK Il Vy).bind fun VS=>
   (aI 56 VS.ag (⟨wJ.head,wJ.kids,l63,x66⟩:ae)).bind fun Ii=>
   (gg Il Vy (⟨VS.name,VS.arity,Ii⟩:aj)).bind fun l72=>
   self (l72,(I.wrap .i64 (I.add Bf 1))))) n ([],[],0)
 else
  k (Il,Bf)
def vC(I:Pr)(M:Md)(n:Nat)(iq:List aj)(XH:List aj)(Vv:Int)(y2:List Int)(k:(List aj)×Int→Option (ah×Int))(self:(List aj)×Int→Option (ah×Int))(st:(List aj)×Int):Option (ah×Int):=
 match st with
 |(Ih,Q8)=>
 bif (I.aV Q8 Vv)then
  (gN (M.ln iq) Q8).bind fun k80=>
  (gK XH k80).bind fun x81=>
  (gN 12 Q8).bind fun k82=>
  (gK y2 k82).bind fun x83=>
  bif (I.aJ x83 Q8)then
  (aI 48 Ih x81).bind fun BK=>
  self (BK,(I.wrap .i64 (I.add Q8 1)))
  else
  self (Ih,(I.wrap .i64 (I.add Q8 1)))
 else
  k (Ih,Q8)
def vF(I:Pr)(M:Md)(n:Nat)(a0:ah)(iq:List aj)(Kg:Int)(y2:List Int)(k:(List aj)×Int→Option (ah×Int))(self:(List aj)×Int→Option (ah×Int))(st:(List aj)×Int):Option (ah×Int):=
 match st with
 |(xh,jW)=>
 bif (I.aV jW Kg)then
  (gI a0.blocks jW).bind fun qS=>
  (some (aq qS.ag)).bind fun QO=>
  iter (vE I M n a0 iq QO qS y2 jW (fun(TQ,z74)=>
   self (TQ,(I.wrap .i64 (I.add jW 1))))) n (xh,0)
 else
  k (xh,jW)
def vG(I:Pr)(M:Md)(n:Nat)(a0:ah)(n5:Int)(k:(List aj)×Int→Option (ah×Int))(self:(List aj)×Int→Option (ah×Int))(st:(List aj)×Int):Option (ah×Int):=
 match st with
 |(l8,z9)=>
 bif (I.aV z9 n5)then
  (gI a0.blocks z9).bind fun yC=>
  (aI 48 l8 (⟨yC.name,yC.arity,[]⟩:aj)).bind fun I2=>
  self (I2,(I.wrap .i64 (I.add z9 1)))
 else
  k (l8,z9)
def yX(I:Pr)(M:Md)(n:Nat)(a0:ah):Option (ah×Int):=
 (c4 I M n a0).bind fun y1=>
 bif (I.not (I.aJ y1 0))then
 some ((⟨[]⟩:ah),y1)
 else
 (ql I M n a0).bind fun y2=>
 (some (List.replicate 12 (0:Int))).bind fun l3=>
 (lW 12 l3).bind fun u4=>
 (some (aq a0.blocks)).bind fun n5=>
 bif (I.aV 0 n5)then
  (gI a0.blocks 0).bind fun x6=>
  (aI 48 [] (⟨x6.name,x6.arity,[]⟩:aj)).bind fun l7=>
  iter (vG I M n a0 n5 (fun(iq,nu)=>
   (some (aq a0.blocks)).bind fun Kg=>
   iter (vF I M n a0 iq Kg y2 (fun(XH,z76)=>
    (some ((((M.ln iq):Nat):Int))).bind fun Vv=>
    iter (vC I M n iq XH Vv y2 (fun(CV,Lo)=>
     some ((⟨CV⟩:ah),0))) n ([],0))) n (iq,0))) n (l7,(I.wrap .i64 (I.add 0 1)))
 else
  none
def ji(I:Pr)(M:Md)(n:Nat):Option Bool:=
 (pO I M n).bind fun y1=>
 (cd I M n (⟨y1.blocks⟩:ah)).bind fun y2=>
 (pO I M n).bind fun y3=>
 (kH I M n (⟨y3.blocks⟩:ah)).bind fun y4=>
 (pO I M n).bind fun y5=>
 (DQ I M n (⟨y5.blocks⟩:ah)).bind fun y6=>
 (yf I M n).bind fun y7=>
 (gr I M n y7).bind fun y8=>
 (je I M n y8.1).bind fun y9=>
 (tX I M n).bind fun qO=>
 (vH I M n (⟨qO.blocks⟩:ah)).bind fun sm=>
 (tX I M n).bind fun CJ=>
 (yX I M n CJ).bind fun pW=>
 (bH I M n 3 (⟨#[97]⟩:ByteArray) 0 []).bind fun E7=>
 (bH I M n 5 (⟨#[111,110,101,115]⟩:ByteArray) 0 []).bind fun Da=>
 (bH I M n 3 (⟨#[99,111,110,115]⟩:ByteArray) 0 ([0,1])).bind fun GY=>
 (cY I M n 2 ([E7,Da,GY])).bind fun y17=>
 (cp I M n (⟨#[111,110,101,115]⟩:ByteArray) 0 y17).bind fun LF=>
 (bH I M n 1 (⟨#[]⟩:ByteArray) 0 []).bind fun y19=>
 (cY I M n 0 ([y19])).bind fun NT=>
 (cp I M n (⟨#[105,100]⟩:ByteArray) 1 NT).bind fun Pk=>
 (bH I M n 4 (⟨#[111,110,101,115]⟩:ByteArray) 0 []).bind fun QN=>
 (bH I M n 5 (⟨#[105,100]⟩:ByteArray) 0 ([0])).bind fun ZO=>
 (bH I M n 5 (⟨#[111,110,101,115]⟩:ByteArray) 0 []).bind fun y24=>
 (bH I M n 3 (⟨#[112]⟩:ByteArray) 0 ([1,2])).bind fun Rc=>
 (cY I M n 3 ([QN,ZO,y24,Rc])).bind fun VQ=>
 (cp I M n (⟨#[116,119,111]⟩:ByteArray) 0 VQ).bind fun y27=>
 (bH I M n 4 (⟨#[111,110,101,115]⟩:ByteArray) 0 []).bind fun NS=>
 (bH I M n 5 (⟨#[111,110,101,115]⟩:ByteArray) 0 []).bind fun Vp=>
 (bH I M n 3 (⟨#[112]⟩:ByteArray) 0 ([0,1])).bind fun EZ=>
 (cY I M n 2 ([NS,Vp,EZ])).bind fun Bg=>
 (cp I M n (⟨#[116,119,111]⟩:ByteArray) 0 Bg).bind fun Rb=>
 (gN 3 2).bind fun k33=>
 (gK ([LF,Pk,y27]) k33).bind fun ZU=>
 (gg ([LF,Pk,y27]) k33 Rb).bind fun l35=>
 (some (l35.take 3)).bind fun w36=>
 (bH I M n 3 (⟨#[97]⟩:ByteArray) 0 []).bind fun ZN=>
 (bH I M n 5 (⟨#[111,110,101,115]⟩:ByteArray) 0 []).bind fun Vn=>
 (bH I M n 3 (⟨#[99,111,110,115]⟩:ByteArray) 0 ([0,1])).bind fun NR=>
 (cY I M n 2 ([ZN,Vn,NR])).bind fun B8=>
 (cp I M n (⟨#[111,110,101,115]⟩:ByteArray) 0 B8).bind fun LD=>
 (bH I M n 1 (⟨#[]⟩:ByteArray) 0 []).bind fun QM=>
 (cY I M n 0 ([QM])).bind fun y43=>
 (cp I M n (⟨#[105,100]⟩:ByteArray) 1 y43).bind fun y44=>
 (bH I M n 4 (⟨#[111,110,101,115]⟩:ByteArray) 0 []).bind fun ZM=>
 (bH I M n 5 (⟨#[105,100]⟩:ByteArray) 0 ([0])).bind fun y46=>
 (bH I M n 5 (⟨#[111,110,101,115]⟩:ByteArray) 0 []).bind fun y47=>
 (bH I M n 3 (⟨#[112]⟩:ByteArray) 0 ([1,2])).bind fun ZL=>
 (cY I M n 3 ([ZM,y46,y47,ZL])).bind fun VP=>
 (cp I M n (⟨#[116,119,111]⟩:ByteArray) 0 VP).bind fun QL=>
 (bH I M n 5 (⟨#[111,110,101,115]⟩:ByteArray) 0 []).bind fun y51=>
 (bH I M n 3 (⟨#[112]⟩:ByteArray) 0 ([0,0])).bind fun Ja=>
 (cY I M n 1 ([y51,Ja])).bind fun VO=>
 (cp I M n (⟨#[116,119,111]⟩:ByteArray) 0 VO).bind fun Pj=>
 (gK ([LD,y44,QL]) k33).bind fun x55=>
 (gg ([LD,y44,QL]) k33 Pj).bind fun M9=>
 (some (M9.take 3)).bind fun w57=>
 (yf I M n).bind fun y58=>
 (gI y58.blocks 0).bind fun qP=>
 (bH I M n 3 (⟨#[97]⟩:ByteArray) 0 []).bind fun Lp=>
 (cY I M n 0 ([Lp])).bind fun y61=>
 (cp I M n (⟨#[103]⟩:ByteArray) 0 y61).bind fun sk=>
 (qw I M n ([qP,sk])).bind fun y63=>
 (cJ (I.pick (I.pick (I.pick (I.pick (I.pick (I.pick (I.aJ y2.2 0) (I.aJ y4.2 0) false) (I.aJ y6.2.2 0) false) (I.aJ y8.2 0) false) (I.aJ y9.2 0) false) (I.aJ sm.2 0) false) (I.aJ pW.2 0) false) true (pO I M n) default).bind fun y64=>
 (cJ (I.pick (I.pick (I.pick (I.pick (I.pick (I.pick (I.aJ y2.2 0) (I.aJ y4.2 0) false) (I.aJ y6.2.2 0) false) (I.aJ y8.2 0) false) (I.aJ y9.2 0) false) (I.aJ sm.2 0) false) (I.aJ pW.2 0) false) true (nH I M n y2.1 y64) default).bind fun Ra=>
 (cJ (I.pick (I.pick (I.pick (I.pick (I.pick (I.pick (I.pick (I.aJ y2.2 0) (I.aJ y4.2 0) false) (I.aJ y6.2.2 0) false) (I.aJ y8.2 0) false) (I.aJ y9.2 0) false) (I.aJ sm.2 0) false) (I.aJ pW.2 0) false) Ra false) true (nH I M n y4.1 (⟨w36⟩:ah)) default).bind fun Vm=>
 (cJ (I.pick (I.pick (I.pick (I.pick (I.pick (I.pick (I.pick (I.pick (I.aJ y2.2 0) (I.aJ y4.2 0) false) (I.aJ y6.2.2 0) false) (I.aJ y8.2 0) false) (I.aJ y9.2 0) false) (I.aJ sm.2 0) false) (I.aJ pW.2 0) false) Ra false) Vm false) true (nH I M n y6.1 (⟨w57⟩:ah)) default).bind fun VN=>
 (cJ (I.pick (I.pick (I.pick (I.pick (I.pick (I.pick (I.pick (I.pick (I.pick (I.pick (I.aJ y2.2 0) (I.aJ y4.2 0) false) (I.aJ y6.2.2 0) false) (I.aJ y8.2 0) false) (I.aJ y9.2 0) false) (I.aJ sm.2 0) false) (I.aJ pW.2 0) false) Ra false) Vm false) VN false) (I.aJ y6.2.1 2) false) true (nH I M n y9.1 y63) default).bind fun ZK=>
 (cJ (I.pick (I.pick (I.pick (I.pick (I.pick (I.pick (I.pick (I.pick (I.pick (I.pick (I.pick (I.aJ y2.2 0) (I.aJ y4.2 0) false) (I.aJ y6.2.2 0) false) (I.aJ y8.2 0) false) (I.aJ y9.2 0) false) (I.aJ sm.2 0) false) (I.aJ pW.2 0) false) Ra false) Vm false) VN false) (I.aJ y6.2.1 2) false) ZK false) true (dq I M n sm.1 ([0,0])) default).bind fun y69=>
 (cJ (I.pick (I.pick (I.pick (I.pick (I.pick (I.pick (I.pick (I.pick (I.pick (I.pick (I.pick (I.pick (I.aJ y2.2 0) (I.aJ y4.2 0) false) (I.aJ y6.2.2 0) false) (I.aJ y8.2 0) false) (I.aJ y9.2 0) false) (I.aJ sm.2 0) false) (I.aJ pW.2 0) false) Ra false) Vm false) VN false) (I.aJ y6.2.1 2) false) ZK false) y69 false) true (tX I M n) default).bind fun y70=>
 (cJ (I.pick (I.pick (I.pick (I.pick (I.pick (I.pick (I.pick (I.pick (I.pick (I.pick (I.pick (I.pick (I.aJ y2.2 0) (I.aJ y4.2 0) false) (I.aJ y6.2.2 0) false) (I.aJ y8.2 0) false) (I.aJ y9.2 0) false) (I.aJ sm.2 0) false) (I.aJ pW.2 0) false) Ra false) Vm false) VN false) (I.aJ y6.2.1 2) false) ZK false) y69 false) true (gI y70.blocks 0) default).bind fun Vq=>
 (cJ (I.pick (I.pick (I.pick (I.pick (I.pick (I.pick (I.pick (I.pick (I.pick (I.pick (I.pick (I.pick (I.aJ y2.2 0) (I.aJ y4.2 0) false) (I.aJ y6.2.2 0) false) (I.aJ y8.2 0) false) (I.aJ y9.2 0) false) (I.aJ sm.2 0) false) (I.aJ pW.2 0) false) Ra false) Vm false) VN false) (I.aJ y6.2.1 2) false) ZK false) y69 false) true (qw I M n ([Vq])) default).bind fun y72=>
 (cJ (I.pick (I.pick (I.pick (I.pick (I.pick (I.pick (I.pick (I.pick (I.pick (I.pick (I.pick (I.pick (I.aJ y2.2 0) (I.aJ y4.2 0) false) (I.aJ y6.2.2 0) false) (I.aJ y8.2 0) false) (I.aJ y9.2 0) false) (I.aJ sm.2 0) false) (I.aJ pW.2 0) false) Ra false) Vm false) VN false) (I.aJ y6.2.1 2) false) ZK false) y69 false) true (nH I M n pW.1 y72) default).bind fun y73=>
 some (I.pick (I.pick (I.pick (I.pick (I.pick (I.pick (I.pick (I.pick (I.pick (I.pick (I.pick (I.pick (I.pick (I.aJ y2.2 0) (I.aJ y4.2 0) false) (I.aJ y6.2.2 0) false) (I.aJ y8.2 0) false) (I.aJ y9.2 0) false) (I.aJ sm.2 0) false) (I.aJ pW.2 0) false) Ra false) Vm false) VN false) (I.aJ y6.2.1 2) false) ZK false) y69 false) y73 false)
def eg(I:Pr)(M:Md)(n:Nat)(a0:Int)(a1:Int)(a2:Int):Option Bool:=
 some (I.pick (I.aV a0 a1) true (I.aV a2 a0))
def As(I:Pr)(M:Md)(n:Nat)(a0:Int)(a1:Int)(a2:Int):Option Bool:=
 some (I.pick (I.aV a0 a1) true (I.aV a2 a0))
def nU(I:Pr)(M:Md)(n:Nat)(a0:ByteArray)(k:Int→Option Bool)(self:Int→Option Bool)(z3:Int):Option Bool:=
 (some (la a0)).bind fun n4=>
 bif (I.aV z3 n4)then
  (gB a0 z3).bind fun x5=>
  (cJ (I.aV x5 97) false (gB a0 z3) default).bind fun x6=>
  bif (I.pick (I.aV x5 97) true (I.aV 122 x6))then
  some false
  else
  self (I.wrap .i64 (I.add z3 1))
 else
  k z3
def lE(I:Pr)(M:Md)(n:Nat)(a0:ByteArray):Option Bool:=
 (some (la a0)).bind fun n1=>
 (As I M n n1 1 8).bind fun y2=>
 bif y2 then
 some false
 else
 iter (nU I M n a0 (fun z7=>
  some true)) n 0
def ew(I:Pr)(M:Md)(n:Nat)(a0:aj)(C8:Int)(k:Int→Option Int)(self:Int→Option Int)(IZ:Int):Option Int:=
 bif (I.aV IZ C8)then
  (gI a0.ag C8).bind fun pM=>
  (gI a0.ag IZ).bind fun fu=>
  (cJ (I.seq pM.head fu.head) true (gI a0.ag C8) default).bind fun x31=>
  (cJ (I.seq pM.head fu.head) true (gI a0.ag IZ) default).bind fun VU=>
  bif (I.pick (I.seq pM.head fu.head) (I.aJ x31.kids VU.kids) false)then
  some 5
  else
  self (I.wrap .i64 (I.add IZ 1))
 else
  k IZ
def dt(I:Pr)(M:Md)(n:Nat)(a0:aj)(k:Int→Option Int)(self:Int→Option Int)(C8:Int):Option Int:=
 (some (aq a0.ag)).bind fun n27=>
 bif (I.aV C8 n27)then
  iter (ew I M n a0 C8 (fun z33=>
   self (I.wrap .i64 (I.add C8 1)))) n 0
 else
  k C8
def ey(I:Pr)(M:Md)(n:Nat)(a0:aj)(k:Int→Option Int)(self:Int→Option Int)(B7:Int):Option Int:=
 (some (aq a0.ag)).bind fun XA=>
 bif (I.aV B7 XA)then
  (gI a0.ag B7).bind fun FT=>
  bif (I.pick (I.pick (I.seq FT.head (⟨#[]⟩:ByteArray)) (I.pick (I.aV 1 XA) true (I.not (I.aJ FT.kids 0))) false) true (I.pick (I.not (I.seq FT.head (⟨#[]⟩:ByteArray))) (I.aJ a0.arity 0) false))then
  some 7
  else
  self (I.wrap .i64 (I.add B7 1))
 else
  k B7
def ez(I:Pr)(M:Md)(n:Nat)(a0:aj)(k:Int→Option Int)(self:Int→Option Int)(jW:Int):Option Int:=
 (some (aq a0.ag)).bind fun TC=>
 bif (I.aV jW TC)then
  (gI a0.ag jW).bind fun xb=>
  (cJ (I.not (I.seq xb.head (⟨#[]⟩:ByteArray))) true (gI a0.ag jW) default).bind fun Hd=>
  (cJ (I.not (I.seq xb.head (⟨#[]⟩:ByteArray))) true (lE I M n Hd.head) default).bind fun NT=>
  bif (I.pick (I.not (I.seq xb.head (⟨#[]⟩:ByteArray))) (I.not NT) false)then
  some 4
  else
  self (I.wrap .i64 (I.add jW 1))
 else
  k jW
def eB(I:Pr)(M:Md)(n:Nat)(a0:aj)(k:Int→Option Int)(self:Int→Option Int)(yF:Int):Option Int:=
 (some (aq a0.ag)).bind fun uU=>
 bif (I.aV yF uU)then
  (gI a0.ag yF).bind fun u9=>
  (eg I M n u9.kids 0 4).bind fun pW=>
  bif pW then
  some 3
  else
  self (I.wrap .i64 (I.add yF 1))
 else
  k yF
def eC(I:Pr)(M:Md)(n:Nat)(a0:aj)(k:Int→Option Int)(self:Int→Option Int)(z3:Int):Option Int:=
 (some (aq a0.ag)).bind fun n4=>
 bif (I.aV z3 n4)then
  (gI a0.ag z3).bind fun x5=>
  (some (aq x5.ops)).bind fun n6=>
  (eg I M n n6 1 60).bind fun y7=>
  bif y7 then
  some 2
  else
  self (I.wrap .i64 (I.add z3 1))
 else
  k z3
def jy(I:Pr)(M:Md)(n:Nat)(a0:aj):Option Int:=
 (some (aq a0.ag)).bind fun n1=>
 (eg I M n n1 1 6).bind fun y2=>
 bif y2 then
 some 2
 else
 iter (eC I M n a0 (fun z8=>
  (eg I M n a0.arity 0 4).bind fun y9=>
  bif y9 then
   some 3
  else
   iter (eB I M n a0 (fun ea=>
    (lE I M n a0.name).bind fun Da=>
    bif (I.not Da)then
    some 4
    else
    iter (ez I M n a0 (fun z21=>
     iter (ey I M n a0 (fun z25=>
      iter (dt I M n a0 (fun CI=>
       some 0)) n 0)) n 0)) n 0)) n 0)) n 0
def yS(I:Pr)(M:Md)(n:Nat)(a0:ah)(a1:ByteArray)(k:Int→Option Int)(self:Int→Option Int)(z1:Int):Option Int:=
 (some (aq a0.blocks)).bind fun n2=>
 bif (I.aV z1 n2)then
  (gI a0.blocks z1).bind fun x3=>
  bif (I.seq x3.name a1)then
  some z1
  else
  self (I.wrap .i64 (I.add z1 1))
 else
  k z1
def nB(I:Pr)(M:Md)(n:Nat)(a0:ah)(a1:ByteArray):Option Int:=
 iter (yS I M n a0 a1 (fun z4=>
  some (-1))) n 0
def jA(I:Pr)(M:Md)(n:Nat)(a0:List aL)(l1:List Bool)(z2:Int)(k:Bool×Int→Option (List Bool))(self:Bool×Int→Option (List Bool))(st:Bool×Int):Option (List Bool):=
 match st with
 |(z5,z6)=>
 (gI a0 z2).bind fun x7=>
 (some (aq x7.args)).bind fun n8=>
 bif (I.aV z6 n8)then
  (cJ z5 false (gI a0 z2) default).bind fun x9=>
  (cJ z5 false (cJ (I.aJ x9.kind 3) true (gI a0 z2) default) default).bind fun yC=>
  (cJ z5 false (cJ (I.aJ x9.kind 3) true (gI yC.args z6) default) default).bind fun FV=>
  (cJ z5 false (cJ (I.aJ x9.kind 3) true (gI l1 FV) default) default).bind fun u9=>
  self ((I.pick z5 true (I.pick (I.aJ x9.kind 3) u9 false)),(I.wrap .i64 (I.add z6 1)))
 else
  k (z5,z6)
def ml(I:Pr)(M:Md)(n:Nat)(a0:List aL)(k:(List Bool)×Int→Option (List Bool))(self:(List Bool)×Int→Option (List Bool))(st:(List Bool)×Int):Option (List Bool):=
 match st with
 |(l1,z2)=>
 (some (aq a0)).bind fun n3=>
 bif (I.aV z2 n3)then
  (gI a0 z2).bind fun x4=>
  iter (jA I M n a0 l1 z2 (fun(nu,ea)=>
   (aI 1 l1 nu).bind fun xh=>
   self (xh,(I.wrap .i64 (I.add z2 1))))) n ((I.aJ x4.kind 5),0)
 else
  k (l1,z2)
def tL(I:Pr)(M:Md)(n:Nat)(a0:List aL):Option (List Bool):=
 iter (ml I M n a0 (fun(Na,EY)=>
  some Na)) n ([],0)
def gX(I:Pr)(M:Md)(n:Nat)(x1:aL)(GY:List Bool)(k:Int→Option Int)(self:Int→Option Int)(EY:Int):Option Int:=
 (some (aq x1.args)).bind fun QO=>
 bif (I.aV EY QO)then
  (gI x1.args EY).bind fun Hd=>
  (gI GY Hd).bind fun dR=>
  bif dR then
  some 7
  else
  self (I.wrap .i64 (I.add EY 1))
 else
  k EY
def gY(I:Pr)(M:Md)(n:Nat)(a3:Int)(x1:aL)(k:Int→Option Int)(self:Int→Option Int)(z7:Int):Option Int:=
 (some (aq x1.args)).bind fun n8=>
 bif (I.aV z7 n8)then
  (gI x1.args z7).bind fun x9=>
  (eg I M n x9 0 (I.wrap .i64 (I.sub a3 1))).bind fun qO=>
  bif qO then
  some 1
  else
  self (I.wrap .i64 (I.add z7 1))
 else
  k z7
def kB(I:Pr)(M:Md)(n:Nat)(a0:ah)(a1:aj)(a2:ae)(a3:Int):Option Int:=
 (gI a2.ops a3).bind fun x1=>
 (eg I M n x1.kind 1 5).bind fun y2=>
 bif y2 then
 some 3
 else
 (cJ (I.pick (I.pK x1.kind 2) (I.not (I.seq x1.name (⟨#[]⟩:ByteArray))) false) false (cJ (I.aV 2 x1.kind) true (lE I M n x1.name) default) default).bind fun y3=>
 bif (I.pick (I.pick (I.pK x1.kind 2) (I.not (I.seq x1.name (⟨#[]⟩:ByteArray))) false) true (I.pick (I.aV 2 x1.kind) (I.not y3) false))then
  some 4
 else
  (cJ (I.aJ x1.kind 1) true (eg I M n x1.num 0 (I.wrap .i64 (I.sub a1.arity 1))) default).bind fun y4=>
  (cJ (I.pick (I.aJ x1.kind 1) y4 false) false (cJ (I.aJ x1.kind 2) true (eg I M n x1.num 0 (I.wrap .i64 (I.sub a2.kids 1))) default) default).bind fun y5=>
  bif (I.pick (I.pick (I.pick (I.aJ x1.kind 1) y4 false) true (I.pick (I.aJ x1.kind 2) y5 false)) true (I.pick (I.aV 2 x1.kind) (I.not (I.aJ x1.num 0)) false))then
  some 1
  else
  (some (aq x1.args)).bind fun n6=>
  bif (I.pick (I.pick (I.pK x1.kind 2) (I.aV 0 n6) false) true (I.pick (I.aJ x1.kind 3) (I.aV 4 n6) false))then
   some 2
  else
   iter (gY I M n a3 x1 (fun FQ=>
    bif (I.pK x1.kind 3)then
    some 0
    else
    (nB I M n a0 x1.name).bind fun CJ=>
    bif (I.aV CJ 0)then
     some 1
    else
     (some (aq x1.args)).bind fun n13=>
     (gI a0.blocks CJ).bind fun vf=>
     bif (I.not (I.aJ n13 vf.arity))then
     some 7
     else
     (EC a2.ops 0 a3).bind fun xh=>
     (tL I M n xh).bind fun GY=>
     iter (gX I M n x1 GY (fun z21=>
      some 0)) n 0)) n 0
def kC(I:Pr)(M:Md)(n:Nat)(a0:ah)(xb:ae)(nu:Int)(k:Int→Option Int)(self:Int→Option Int)(eh:Int):Option Int:=
 (some (aq xb.ops)).bind fun n20=>
 bif (I.aV eh n20)then
  (gI a0.blocks nu).bind fun wJ=>
  (kB I M n (⟨a0.blocks⟩:ah) wJ xb eh).bind fun QN=>
  bif (I.not (I.aJ QN 0))then
  some QN
  else
  self (I.wrap .i64 (I.add eh 1))
 else
  k eh
def kD(I:Pr)(M:Md)(n:Nat)(a0:ah)(nu:Int)(k:Int→Option Int)(self:Int→Option Int)(uP:Int):Option Int:=
 (gI a0.blocks nu).bind fun x16=>
 (some (aq x16.ag)).bind fun TC=>
 bif (I.aV uP TC)then
  (gI x16.ag uP).bind fun xb=>
  iter (kC I M n a0 xb nu (fun z23=>
   (some (aq xb.ops)).bind fun n24=>
   (eg I M n xb.result 0 (I.wrap .i64 (I.sub n24 1))).bind fun Rc=>
   bif Rc then
   some 1
   else
   self (I.wrap .i64 (I.add uP 1)))) n 0
 else
  k uP
def kE(I:Pr)(M:Md)(n:Nat)(a0:ah)(k:Int→Option Int)(self:Int→Option Int)(nu:Int):Option Int:=
 (some (aq a0.blocks)).bind fun Kg=>
 bif (I.aV nu Kg)then
  iter (kD I M n a0 nu (fun C8=>
   self (I.wrap .i64 (I.add nu 1)))) n 0
 else
  k nu
def kF(I:Pr)(M:Md)(n:Nat)(a0:ah)(k:Int→Option Int)(self:Int→Option Int)(z8:Int):Option Int:=
 (some (aq a0.blocks)).bind fun n9=>
 bif (I.aV z8 n9)then
  (gI a0.blocks z8).bind fun yC=>
  (nB I M n a0 yC.name).bind fun sm=>
  bif (I.aV sm z8)then
  some 5
  else
  self (I.wrap .i64 (I.add z8 1))
 else
  k z8
def kG(I:Pr)(M:Md)(n:Nat)(a0:ah)(k:Int→Option Int)(self:Int→Option Int)(z3:Int):Option Int:=
 (some (aq a0.blocks)).bind fun n4=>
 bif (I.aV z3 n4)then
  (gI a0.blocks z3).bind fun x5=>
  (jy I M n x5).bind fun y6=>
  bif (I.not (I.aJ y6 0))then
  some y6
  else
  self (I.wrap .i64 (I.add z3 1))
 else
  k z3
def lD(I:Pr)(M:Md)(n:Nat)(a0:ah):Option Int:=
 (some (aq a0.blocks)).bind fun n1=>
 (eg I M n n1 1 12).bind fun y2=>
 bif y2 then
 some 2
 else
 iter (kG I M n a0 (fun z7=>
  iter (kF I M n a0 (fun LC=>
   iter (kE I M n a0 (fun z27=>
    some 0)) n 0)) n 0)) n 0
def jz(I:Pr)(M:Md)(n:Nat)(a0:ae)(l2:List Bool)(z4:Int)(k:(List Bool)×Int→Option (List Bool))(self:(List Bool)×Int→Option (List Bool))(st:(List Bool)×Int):Option (List Bool):=
 match st with
 |(l9,yF)=>
 (gI a0.ops z4).bind fun FV=>
 (some (aq FV.args)).bind fun Vw=>
 bif (I.aV yF Vw)then
  (gI FV.args yF).bind fun Bi=>
  (gN (M.ln l2) Bi).bind fun k14=>
  (gK l9 k14).bind fun yB=>
  (cJ yB false (gN (M.ln l2) z4) default).bind fun k16=>
  (cJ yB false (gK l9 k16) default).bind fun qS=>
  (gg l9 k14 (I.pick yB true qS)).bind fun qQ=>
  self (qQ,(I.wrap .i64 (I.add yF 1)))
 else
  k (l9,yF)
def mj(I:Pr)(M:Md)(n:Nat)(a0:ae)(l2:List Bool)(k:(List Bool)×Int→Option (List Bool))(self:(List Bool)×Int→Option (List Bool))(st:(List Bool)×Int):Option (List Bool):=
 match st with
 |(l3,z4)=>
 bif (I.pK 0 z4)then
  (gN (M.ln l2) z4).bind fun k5=>
  (gK l3 k5).bind fun x6=>
  (cJ (I.pick x6 true (I.aJ z4 a0.result)) false (gI a0.ops z4) default).bind fun x7=>
  (gg l3 k5 (I.pick (I.pick x6 true (I.aJ z4 a0.result)) true (I.aV 3 x7.kind))).bind fun l8=>
  iter (jz I M n a0 l2 z4 (fun(Il,Bf)=>
   self (Il,(I.wrap .i64 (I.sub z4 1))))) n (l8,0)
 else
  k (l3,z4)
def tK(I:Pr)(M:Md)(n:Nat)(a0:ae):Option (List Bool):=
 (some (aq a0.ops)).bind fun n1=>
 (vc 1 n1 false).bind fun l2=>
 iter (mj I M n a0 l2 (fun(vQ,B7)=>
  (dM (M.ln l2) vQ).bind fun Pv=>
  some vQ)) n (l2,(I.wrap .i64 (I.sub n1 1)))
def iY(I:Pr)(M:Md)(n:Nat)(a0:aL)(a1:List Int)(k:(List Int)×Int→Option aL)(self:(List Int)×Int→Option aL)(st:(List Int)×Int):Option aL:=
 match st with
 |(l1,z2)=>
 (some (aq a0.args)).bind fun n3=>
 bif (I.aV z2 n3)then
  (gI a0.args z2).bind fun x4=>
  (gI a1 x4).bind fun x5=>
  (aI 8 l1 x5).bind fun l6=>
  self (l6,(I.wrap .i64 (I.add z2 1)))
 else
  k (l1,z2)
def fa(I:Pr)(M:Md)(n:Nat)(a0:aL)(a1:List Int):Option aL:=
 iter (iY I M n a0 a1 (fun(l7,z8)=>
  some (⟨a0.kind,a0.name,a0.num,l7⟩:aL))) n ([],0)
def gW(I:Pr)(M:Md)(n:Nat)(a0:ae)(l3:List Int)(y1:List Bool)(k:(List Int)×(List aL)×Int→Option ae)(self:(List Int)×(List aL)×Int→Option ae)(st:(List Int)×(List aL)×Int):Option ae:=
 match st with
 |(l4,l5,z6)=>
 (some (aq a0.ops)).bind fun n7=>
 bif (I.aV z6 n7)then
  (gI y1 z6).bind fun x8=>
  bif x8 then
  (some (aq l5)).bind fun n9=>
  (gN (M.ln l3) z6).bind fun k10=>
  (gK l4 k10).bind fun FV=>
  (gg l4 k10 n9).bind fun iq=>
  (gI a0.ops z6).bind fun Bi=>
  (dM (M.ln l3) iq).bind fun u14=>
  (fa I M n Bi iq).bind fun Da=>
  (aI 56 l5 Da).bind fun Na=>
  self (iq,Na,(I.wrap .i64 (I.add z6 1)))
  else
  self (l4,l5,(I.wrap .i64 (I.add z6 1)))
 else
  k (l4,l5,z6)
def nT(I:Pr)(M:Md)(n:Nat)(a0:ae):Option ae:=
 (tK I M n a0).bind fun y1=>
 (some (aq a0.ops)).bind fun n2=>
 (vc 8 n2 0).bind fun l3=>
 iter (gW I M n a0 l3 y1 (fun(tw,qQ,eh)=>
  (gN (M.ln l3) a0.result).bind fun k20=>
  (gK tw k20).bind fun wJ=>
  some (⟨a0.head,a0.kids,qQ,wJ⟩:ae))) n (l3,[],0)
def pG(I:Pr)(M:Md)(n:Nat)(a0:aL)(a1:aL)(k:Int→Option Bool)(self:Int→Option Bool)(z3:Int):Option Bool:=
 (some (aq a0.args)).bind fun n4=>
 bif (I.aV z3 n4)then
  (gI a0.args z3).bind fun x5=>
  (gI a1.args z3).bind fun x6=>
  bif (I.not (I.aJ x5 x6))then
  some false
  else
  self (I.wrap .i64 (I.add z3 1))
 else
  k z3
def tJ(I:Pr)(M:Md)(n:Nat)(a0:aL)(a1:aL):Option Bool:=
 (some (aq a0.args)).bind fun n1=>
 (some (aq a1.args)).bind fun n2=>
 bif (I.pick (I.pick (I.pick (I.not (I.aJ a0.kind a1.kind)) true (I.not (I.seq a0.name a1.name))) true (I.not (I.aJ a0.num a1.num))) true (I.not (I.aJ n1 n2)))then
 some false
 else
 iter (pG I M n a0 a1 (fun z7=>
  some true)) n 0
def bX(I:Pr)(M:Md)(n:Nat)(l4:List aL)(y9:aL)(k:Int×Int→Option ae)(self:Int×Int→Option ae)(st:Int×Int):Option ae:=
 match st with
 |(yF,FQ)=>
 (some (aq l4)).bind fun Vw=>
 bif (I.pick (I.aV FQ Vw) (I.aV yF 0) false)then
  (gI l4 FQ).bind fun Bi=>
  (tJ I M n Bi y9).bind fun E7=>
  bif E7 then
  self (FQ,(I.wrap .i64 (I.add FQ 1)))
  else
  self (yF,(I.wrap .i64 (I.add FQ 1)))
 else
  k (yF,FQ)
def iX(I:Pr)(M:Md)(n:Nat)(a0:ae)(l2:List Int)(k:(List Int)×(List aL)×Int→Option ae)(self:(List Int)×(List aL)×Int→Option ae)(st:(List Int)×(List aL)×Int):Option ae:=
 match st with
 |(l3,l4,z5)=>
 (some (aq a0.ops)).bind fun n6=>
 bif (I.aV z5 n6)then
  (gI a0.ops z5).bind fun x7=>
  (dM (M.ln l2) l3).bind fun u8=>
  (fa I M n x7 l3).bind fun y9=>
  iter (bX I M n l4 y9 (fun(uP,jW)=>
   bif (I.aV uP 0)then
   (some (aq l4)).bind fun TC=>
   (aI 56 l4 y9).bind fun qQ=>
   (gN (M.ln l2) z5).bind fun k19=>
   (gK l3 k19).bind fun dR=>
   (gg l3 k19 TC).bind fun vQ=>
   self (vQ,qQ,(I.wrap .i64 (I.add z5 1)))
   else
   (gN (M.ln l2) z5).bind fun k22=>
   (gK l3 k22).bind fun x23=>
   (gg l3 k22 uP).bind fun Lu=>
   self (Lu,l4,(I.wrap .i64 (I.add z5 1))))) n ((-1),0)
 else
  k (l3,l4,z5)
def pF(I:Pr)(M:Md)(n:Nat)(a0:ae):Option ae:=
 (some (aq a0.ops)).bind fun n1=>
 (vc 8 n1 0).bind fun l2=>
 iter (iX I M n a0 l2 (fun(Kt,Ik,z27)=>
  (gN (M.ln l2) a0.result).bind fun k28=>
  (gK Kt k28).bind fun pM=>
  some (⟨a0.head,a0.kids,Ik,pM⟩:ae))) n (l2,[],0)
def lC(I:Pr)(M:Md)(n:Nat)(a0:aL):Option Bool:=
 some (I.pick (I.aJ a0.kind 4) true (I.aJ a0.kind 5))
def xx(I:Pr)(M:Md)(n:Nat)(a0:ae)(k:Int→Option Bool)(self:Int→Option Bool)(z1:Int):Option Bool:=
 (some (aq a0.ops)).bind fun n2=>
 bif (I.aV z1 n2)then
  (gI a0.ops z1).bind fun x3=>
  (lC I M n x3).bind fun y4=>
  bif y4 then
  some false
  else
  self (I.wrap .i64 (I.add z1 1))
 else
  k z1
def vr(I:Pr)(M:Md)(n:Nat)(a0:ae):Option Bool:=
 iter (xx I M n a0 (fun z5=>
  some true)) n 0
def vq(I:Pr)(M:Md)(n:Nat)(a0:aj):Option Bool:=
 (some (aq a0.ag)).bind fun n1=>
 (cJ (I.aJ n1 1) true (gI a0.ag 0) default).bind fun x2=>
 (cJ (I.pick (I.aJ n1 1) (I.seq x2.head (⟨#[]⟩:ByteArray)) false) true (gI a0.ag 0) default).bind fun x3=>
 (cJ (I.pick (I.aJ n1 1) (I.seq x2.head (⟨#[]⟩:ByteArray)) false) true (vr I M n (⟨x3.head,x3.kids,x3.ops,x3.result⟩:ae)) default).bind fun y4=>
 some (I.pick (I.pick (I.aJ n1 1) (I.seq x2.head (⟨#[]⟩:ByteArray)) false) y4 false)
def yR(I:Pr)(M:Md)(n:Nat)(a0:aj)(x6:aL)(k:Int→Option Int)(self:Int→Option Int)(z7:Int):Option Int:=
 (some (aq a0.ag)).bind fun n8=>
 bif (I.aV z7 n8)then
  (gI a0.ag z7).bind fun x9=>
  (cJ (I.seq x9.head x6.name) true (gI a0.ag z7) default).bind fun yC=>
  (some (aq x6.args)).bind fun uU=>
  (cJ (I.pick (I.seq x9.head x6.name) (I.aJ yC.kids uU) false) true (gI a0.ag z7) default).bind fun u9=>
  (cJ (I.pick (I.seq x9.head x6.name) (I.aJ yC.kids uU) false) true (vr I M n u9) default).bind fun pW=>
  bif (I.pick (I.pick (I.seq x9.head x6.name) (I.aJ yC.kids uU) false) pW false)then
  some z7
  else
  self (I.wrap .i64 (I.add z7 1))
 else
  k z7
def DB(I:Pr)(M:Md)(n:Nat)(a0:aj)(a1:aL)(a2:List aL)(a3:Bool):Option Int:=
 bif (I.not a3)then
 (vq I M n (⟨a0.name,a0.arity,a0.ag⟩:aj)).bind fun y1=>
 bif y1 then
  some 0
 else
  some (-1)
 else
 (gI a0.ag 0).bind fun x2=>
 (cJ (I.seq x2.head (⟨#[]⟩:ByteArray)) false (gI a1.args 0) default).bind fun x3=>
 (cJ (I.seq x2.head (⟨#[]⟩:ByteArray)) false (gI a2 x3) default).bind fun x4=>
 bif (I.pick (I.seq x2.head (⟨#[]⟩:ByteArray)) true (I.not (I.aJ x4.kind 3)))then
  some (-1)
 else
  (gI a1.args 0).bind fun x5=>
  (gI a2 x5).bind fun x6=>
  iter (yR I M n a0 x6 (fun ea=>
   some (-1))) n 0
def Bw(I:Pr)(M:Md)(n:Nat)(P7:List Int)(vf:ae)(y9:aL)(k:(List Int)×(List aL)×Int→Option ae)(self:(List Int)×(List aL)×Int→Option ae)(st:(List Int)×(List aL)×Int):Option ae:=
 match st with
 |(E8,Fv,C7)=>
 (some (aq vf.ops)).bind fun n33=>
 bif (I.aV C7 n33)then
  (gI vf.ops C7).bind fun ZU=>
  bif (I.aJ ZU.kind 1)then
  (gI y9.args ZU.num).bind fun oP=>
  (gN (M.ln P7) C7).bind fun k36=>
  (gK E8 k36).bind fun x37=>
  (gg E8 k36 oP).bind fun l38=>
  self (l38,Fv,(I.wrap .i64 (I.add C7 1)))
  else
  bif (I.aJ ZU.kind 2)then
   (gI y9.args 0).bind fun x39=>
   (gI Fv x39).bind fun x40=>
   (gI x40.args ZU.num).bind fun Po=>
   (gN (M.ln P7) C7).bind fun k42=>
   (gK E8 k42).bind fun x43=>
   (gg E8 k42 Po).bind fun Fu=>
   self (Fu,Fv,(I.wrap .i64 (I.add C7 1)))
  else
   (some (aq Fv)).bind fun MY=>
   (gN (M.ln P7) C7).bind fun k46=>
   (gK E8 k46).bind fun LL=>
   (gg E8 k46 MY).bind fun QR=>
   (dM (M.ln P7) QR).bind fun u49=>
   (fa I M n ZU QR).bind fun QL=>
   (aI 56 Fv QL).bind fun Vx=>
   self (QR,Vx,(I.wrap .i64 (I.add C7 1)))
 else
  k (E8,Fv,C7)
def By(I:Pr)(M:Md)(n:Nat)(vf:ae)(k:Int×Int→Option ae)(self:Int×Int→Option ae)(st:Int×Int):Option ae:=
 match st with
 |(uP,jW)=>
 (some (aq vf.ops)).bind fun TC=>
 bif (I.aV jW TC)then
  (gI vf.ops jW).bind fun xb=>
  (cJ (I.not (I.aJ xb.kind 1)) true (gI vf.ops jW) default).bind fun Hd=>
  bif (I.pick (I.not (I.aJ xb.kind 1)) (I.not (I.aJ Hd.kind 2)) false)then
  self ((I.wrap .i64 (I.add uP 1)),(I.wrap .i64 (I.add jW 1)))
  else
  self (uP,(I.wrap .i64 (I.add jW 1)))
 else
  k (uP,jW)
def Bu(I:Pr)(M:Md)(n:Nat)(k:Unit→Option ae)(self:Unit→Option ae)(st:Unit):Option ae:=
 match st with
 |()=>
 k ()
def Bv(I:Pr)(M:Md)(n:Nat)(k:Unit→Option ae)(self:Unit→Option ae)(st:Unit):Option ae:=
 match st with
 |()=>
 k ()
def Br(I:Pr)(M:Md)(n:Nat)(k:Unit→Option ae)(self:Unit→Option ae)(st:Unit):Option ae:=
 match st with
 |()=>
 k ()
def Bt(I:Pr)(M:Md)(n:Nat)(k:Unit→Option ae)(self:Unit→Option ae)(st:Unit):Option ae:=
 match st with
 |()=>
 k ()
def Bz(I:Pr)(M:Md)(n:Nat)(a0:ah)(a1:ae)(a2:Bool)(l2:List Int)(k:(List Int)×(List aL)×Int→Option ae)(self:(List Int)×(List aL)×Int→Option ae)(st:(List Int)×(List aL)×Int):Option ae:=
 match st with
 |(l3,l4,z5)=>
 (some (aq a1.ops)).bind fun n6=>
 bif (I.aV z5 n6)then
  (gI a1.ops z5).bind fun x7=>
  (dM (M.ln l2) l3).bind fun u8=>
  (fa I M n x7 l3).bind fun y9=>
  (lC I M n y9).bind fun qO=>
  bif qO then
  (nB I M n (⟨a0.blocks⟩:ah) y9.name).bind fun sm=>
  (gI a0.blocks sm).bind fun u9=>
  (DB I M n u9 y9 l4 a2).bind fun pW=>
  bif (I.pK 0 pW)then
   (gI u9.ag pW).bind fun vf=>
   iter (By I M n vf (fun(Bf,z21)=>
    (some (aq l4)).bind fun TB=>
    (some (aq a1.ops)).bind fun XA=>
    bif (I.pick (I.aV pW 0) true (I.aV 60 (I.wrap .i64 (I.sub (I.wrap .i64 (I.sub (I.wrap .i64 (I.add (I.wrap .i64 (I.add TB Bf)) XA)) 1)) z5))))then
    (gN (M.ln l2) z5).bind fun XS=>
    (gK l3 XS).bind fun Ad=>
    (gg l3 XS TB).bind fun Ik=>
    (aI 56 l4 y9).bind fun py=>
    self (Ik,py,(I.wrap .i64 (I.add z5 1)))
    else
    (some (aq vf.ops)).bind fun n28=>
    (vc 8 n28 0).bind fun P7=>
    iter (Bw I M n P7 vf y9 (fun(XJ,l53,z54)=>
     (gN (M.ln P7) vf.result).bind fun k55=>
     (gK XJ k55).bind fun x56=>
     (gN (M.ln l2) z5).bind fun TY=>
     (gK l3 TY).bind fun Vr=>
     (gg l3 TY x56).bind fun Ks=>
     self (Ks,l53,(I.wrap .i64 (I.add z5 1))))) n (P7,l4,0))) n (0,0)
  else
   iter (Bv I M n (fun _=>
    (some (aq l4)).bind fun n60=>
    (some (aq a1.ops)).bind fun Xw=>
    bif (I.pick (I.aV pW 0) true (I.aV 60 (I.wrap .i64 (I.sub (I.wrap .i64 (I.sub (I.wrap .i64 (I.add (I.wrap .i64 (I.add n60 0)) Xw)) 1)) z5))))then
    (gN (M.ln l2) z5).bind fun XR=>
    (gK l3 XR).bind fun x63=>
    (gg l3 XR n60).bind fun P5=>
    (aI 56 l4 y9).bind fun P4=>
    self (P5,P4,(I.wrap .i64 (I.add z5 1)))
    else
    (vc 8 0 0).bind fun Ls=>
    iter (Bu I M n (fun _=>
     (gN (M.ln Ls) 0).bind fun k67=>
     (gK Ls k67).bind fun VT=>
     (gN (M.ln l2) z5).bind fun Vy=>
     (gK l3 Vy).bind fun VS=>
     (gg l3 Vy VT).bind fun Ii=>
     self (Ii,l4,(I.wrap .i64 (I.add z5 1))))) n ())) n ()
  else
  iter (Bt I M n (fun _=>
   (some (aq l4)).bind fun n72=>
   (some (aq a1.ops)).bind fun n73=>
   bif (I.pick (I.aV (-1) 0) true (I.aV 60 (I.wrap .i64 (I.sub (I.wrap .i64 (I.sub (I.wrap .i64 (I.add (I.wrap .i64 (I.add n72 0)) n73)) 1)) z5))))then
    (gN (M.ln l2) z5).bind fun k74=>
    (gK l3 k74).bind fun x75=>
    (gg l3 k74 n72).bind fun XG=>
    (aI 56 l4 y9).bind fun l77=>
    self (XG,l77,(I.wrap .i64 (I.add z5 1)))
   else
    (vc 8 0 0).bind fun Ih=>
    iter (Br I M n (fun _=>
     (gN (M.ln Ih) 0).bind fun k79=>
     (gK Ih k79).bind fun x80=>
     (gN (M.ln l2) z5).bind fun k81=>
     (gK l3 k81).bind fun x82=>
     (gg l3 k81 x80).bind fun l83=>
     self (l83,l4,(I.wrap .i64 (I.add z5 1))))) n ())) n ()
 else
  k (l3,l4,z5)
def Ar(I:Pr)(M:Md)(n:Nat)(a0:ah)(a1:ae)(a2:Bool):Option ae:=
 (some (aq a1.ops)).bind fun n1=>
 (vc 8 n1 0).bind fun l2=>
 iter (Bz I M n a0 a1 a2 l2 (fun(BK,CV,Lo)=>
  (gN (M.ln l2) a1.result).bind fun k87=>
  (gK BK k87).bind fun ZP=>
  some (⟨a1.head,a1.kids,CV,ZP⟩:ae))) n (l2,[],0)
def ef(I:Pr)(M:Md)(n:Nat)(a0:ae)(l2:List Bool)(z4:Int)(k:(List Bool)×Int→Option ae)(self:(List Bool)×Int→Option ae)(st:(List Bool)×Int):Option ae:=
 match st with
 |(l5,z6)=>
 (gI a0.ops z4).bind fun x7=>
 (some (aq x7.args)).bind fun n8=>
 bif (I.aV z6 n8)then
  (lC I M n x7).bind fun y9=>
  (cJ y9 false (gI a0.ops z4) default).bind fun yC=>
  (cJ y9 false (cJ (I.aJ yC.kind 3) true (gN (M.ln l2) z4) default) default).bind fun k11=>
  (cJ y9 false (cJ (I.aJ yC.kind 3) true (gK l5 k11) default) default).bind fun u9=>
  bif (I.pick y9 true (I.pick (I.aJ yC.kind 3) u9 false))then
  (gI x7.args z6).bind fun Bi=>
  (gN (M.ln l2) Bi).bind fun k14=>
  (gK l5 k14).bind fun yB=>
  (gg l5 k14 true).bind fun Na=>
  self (Na,(I.wrap .i64 (I.add z6 1)))
  else
  self (l5,(I.wrap .i64 (I.add z6 1)))
 else
  k (l5,z6)
def fJ(I:Pr)(M:Md)(n:Nat)(a0:ae)(Il:List Bool)(l2:List Bool)(k:(List aL)×Int→Option ae)(self:(List aL)×Int→Option ae)(st:(List aL)×Int):Option ae:=
 match st with
 |(vQ,B7)=>
 (some (aq a0.ops)).bind fun XA=>
 bif (I.aV B7 XA)then
  (gI a0.ops B7).bind fun FT=>
  (cJ (I.aJ FT.kind 4) true (gN (M.ln l2) B7) default).bind fun k25=>
  (cJ (I.aJ FT.kind 4) true (gK Il k25) default).bind fun x26=>
  bif (I.pick (I.aJ FT.kind 4) (I.not x26) false)then
  (aI 56 vQ (⟨5,FT.name,FT.num,FT.args⟩:aL)).bind fun py=>
  self (py,(I.wrap .i64 (I.add B7 1)))
  else
  (aI 56 vQ FT).bind fun tY=>
  self (tY,(I.wrap .i64 (I.add B7 1)))
 else
  k (vQ,B7)
def fK(I:Pr)(M:Md)(n:Nat)(a0:ae)(l2:List Bool)(k:(List Bool)×Int→Option ae)(self:(List Bool)×Int→Option ae)(st:(List Bool)×Int):Option ae:=
 match st with
 |(l3,z4)=>
 bif (I.pK 0 z4)then
  iter (ef I M n a0 l2 z4 (fun(tw,z18)=>
   self (tw,(I.wrap .i64 (I.sub z4 1))))) n (l3,0)
 else
  k (l3,z4)
def mh(I:Pr)(M:Md)(n:Nat)(a0:ae):Option ae:=
 (some (aq a0.ops)).bind fun n1=>
 (vc 1 n1 false).bind fun l2=>
 iter (fK I M n a0 l2 (fun(Il,Bf)=>
  iter (fJ I M n a0 Il l2 (fun(P7,z30)=>
   some (⟨a0.head,a0.kids,P7,a0.result⟩:ae))) n ([],0))) n (l2,(I.wrap .i64 (I.sub n1 1)))
def dy(I:Pr)(M:Md)(n:Nat)(a0:ah)(a1:Int)(z2:Int)(k:(List ae)×Int→Option ah)(self:(List ae)×Int→Option ah)(st:(List ae)×Int):Option ah:=
 match st with
 |(l5,z6)=>
 (gI a0.blocks z2).bind fun x7=>
 (some (aq x7.ag)).bind fun n8=>
 bif (I.aV z6 n8)then
  (gI x7.ag z6).bind fun x9=>
  bif (I.aJ a1 1)then
  (nT I M n x9).bind fun qO=>
  (aI 56 l5 qO).bind fun I2=>
  self (I2,(I.wrap .i64 (I.add z6 1)))
  else
  bif (I.aJ a1 2)then
   (pF I M n x9).bind fun CJ=>
   (aI 56 l5 CJ).bind fun xi=>
   self (xi,(I.wrap .i64 (I.add z6 1)))
  else
   bif (I.aJ a1 3)then
   (Ar I M n (⟨a0.blocks⟩:ah) x9 false).bind fun E7=>
   (aI 56 l5 E7).bind fun xh=>
   self (xh,(I.wrap .i64 (I.add z6 1)))
   else
   bif (I.aJ a1 4)then
    (Ar I M n (⟨a0.blocks⟩:ah) x9 true).bind fun GY=>
    (aI 56 l5 GY).bind fun tw=>
    self (tw,(I.wrap .i64 (I.add z6 1)))
   else
    bif (I.aJ a1 5)then
    (mh I M n x9).bind fun LF=>
    (aI 56 l5 LF).bind fun Il=>
    self (Il,(I.wrap .i64 (I.add z6 1)))
    else
    (aI 56 l5 x9).bind fun TT=>
    self (TT,(I.wrap .i64 (I.add z6 1)))
 else
  k (l5,z6)
def mi(I:Pr)(M:Md)(n:Nat)(a0:ah)(a1:Int)(k:(List aj)×Int→Option ah)(self:(List aj)×Int→Option ah)(st:(List aj)×Int):Option ah:=
 match st with
 |(l1,z2)=>
 (some (aq a0.blocks)).bind fun n3=>
 bif (I.aV z2 n3)then
  (gI a0.blocks z2).bind fun x4=>
  iter (dy I M n a0 a1 z2 (fun(vQ,B7)=>
   (aI 48 l1 (⟨x4.name,x4.arity,vQ⟩:aj)).bind fun wU=>
   self (wU,(I.wrap .i64 (I.add z2 1))))) n ([],0)
 else
  k (l1,z2)
def cB(I:Pr)(M:Md)(n:Nat)(a0:ah)(a1:Int):Option ah:=
 iter (mi I M n a0 a1 (fun(Lu,z25)=>
  some (⟨Lu⟩:ah))) n ([],0)
def gn(I:Pr)(M:Md)(n:Nat)(x5:aL)(x6:aL)(k:Int→Option Bool)(self:Int→Option Bool)(z9:Int):Option Bool:=
 (some (aq x5.args)).bind fun Kh=>
 bif (I.aV z9 Kh)then
  (gI x5.args z9).bind fun FV=>
  (gI x6.args z9).bind fun u9=>
  bif (I.not (I.aJ FV u9))then
  some false
  else
  self (I.wrap .i64 (I.add z9 1))
 else
  k z9
def gp(I:Pr)(M:Md)(n:Nat)(a0:ae)(a1:ae)(k:Int→Option Bool)(self:Int→Option Bool)(z3:Int):Option Bool:=
 (some (aq a0.ops)).bind fun n4=>
 bif (I.aV z3 n4)then
  (gI a0.ops z3).bind fun x5=>
  (gI a1.ops z3).bind fun x6=>
  (some (aq x5.args)).bind fun n7=>
  (some (aq x6.args)).bind fun n8=>
  bif (I.pick (I.pick (I.pick (I.not (I.aJ x5.kind x6.kind)) true (I.not (I.seq x5.name x6.name))) true (I.not (I.aJ x5.num x6.num))) true (I.not (I.aJ n7 n8)))then
  some false
  else
  iter (gn I M n x5 x6 (fun nu=>
   self (I.wrap .i64 (I.add z3 1)))) n 0
 else
  k z3
def jx(I:Pr)(M:Md)(n:Nat)(a0:ae)(a1:ae):Option Bool:=
 (some (aq a0.ops)).bind fun n1=>
 (some (aq a1.ops)).bind fun n2=>
 bif (I.pick (I.pick (I.pick (I.not (I.seq a0.head a1.head)) true (I.not (I.aJ a0.kids a1.kids))) true (I.not (I.aJ a0.result a1.result))) true (I.not (I.aJ n1 n2)))then
 some false
 else
 iter (gp I M n a0 a1 (fun ea=>
  some true)) n 0
def pH(I:Pr)(M:Md)(n:Nat)(x5:aj)(x6:aj)(k:Int→Option Bool)(self:Int→Option Bool)(z9:Int):Option Bool:=
 (some (aq x5.ag)).bind fun Kh=>
 bif (I.aV z9 Kh)then
  (gI x5.ag z9).bind fun FV=>
  (gI x6.ag z9).bind fun u9=>
  (jx I M n FV u9).bind fun pW=>
  bif (I.not pW)then
  some false
  else
  self (I.wrap .i64 (I.add z9 1))
 else
  k z9
def pI(I:Pr)(M:Md)(n:Nat)(a0:ah)(a1:ah)(k:Int→Option Bool)(self:Int→Option Bool)(z3:Int):Option Bool:=
 (some (aq a0.blocks)).bind fun n4=>
 bif (I.aV z3 n4)then
  (gI a0.blocks z3).bind fun x5=>
  (gI a1.blocks z3).bind fun x6=>
  (some (aq x5.ag)).bind fun n7=>
  (some (aq x6.ag)).bind fun n8=>
  bif (I.pick (I.pick (I.not (I.seq x5.name x6.name)) true (I.not (I.aJ x5.arity x6.arity))) true (I.not (I.aJ n7 n8)))then
  some false
  else
  iter (pH I M n x5 x6 (fun ea=>
   self (I.wrap .i64 (I.add z3 1)))) n 0
 else
  k z3
def aH(I:Pr)(M:Md)(n:Nat)(a0:ah)(a1:ah):Option Bool:=
 (some (aq a0.blocks)).bind fun n1=>
 (some (aq a1.blocks)).bind fun n2=>
 bif (I.not (I.aJ n1 n2))then
 some false
 else
 iter (pI I M n a0 a1 (fun uP=>
  some true)) n 0
def fh(I:Pr)(M:Md)(n:Nat)(a0:ah)(a2:List Int):Option Bool:=
 (nE I M n a0).bind fun y1=>
 (lD I M n (⟨a0.blocks⟩:ah)).bind fun y2=>
 bif (I.aJ y2 0)then
 (gI a2 0).bind fun x3=>
 (cB I M n (⟨a0.blocks⟩:ah) x3).bind fun y4=>
 (je I M n (⟨y1.blocks⟩:ah)).bind fun y5=>
 (cJ (I.not (I.aJ y5.2 y2)) false (aH I M n y5.1 y4) default).bind fun y6=>
 bif (I.pick (I.not (I.aJ y5.2 y2)) true (I.not y6))then
  some false
 else
  (aH I M n (⟨y1.blocks⟩:ah) (⟨a0.blocks⟩:ah)).bind fun y7=>
  bif (I.not y7)then
  some false
  else
  bif (I.aJ y2 0)then
   (gI a2 1).bind fun x8=>
   (cB I M n (⟨a0.blocks⟩:ah) x8).bind fun y9=>
   (fe I M n (⟨y1.blocks⟩:ah)).bind fun qO=>
   (cJ (I.not (I.aJ qO.2 y2)) false (aH I M n qO.1 y9) default).bind fun sm=>
   bif (I.pick (I.not (I.aJ qO.2 y2)) true (I.not sm))then
   some false
   else
   (aH I M n (⟨y1.blocks⟩:ah) (⟨a0.blocks⟩:ah)).bind fun CJ=>
   bif (I.not CJ)then
    some false
   else
    bif (I.aJ y2 0)then
    (gI a2 2).bind fun Bi=>
    (cB I M n (⟨a0.blocks⟩:ah) Bi).bind fun E7=>
    (cd I M n (⟨y1.blocks⟩:ah)).bind fun Da=>
    (cJ (I.not (I.aJ Da.2 y2)) false (aH I M n Da.1 E7) default).bind fun GY=>
    bif (I.pick (I.not (I.aJ Da.2 y2)) true (I.not GY))then
     some false
    else
     (aH I M n (⟨y1.blocks⟩:ah) (⟨a0.blocks⟩:ah)).bind fun y17=>
     bif (I.not y17)then
     some false
     else
     some true
    else
    (cd I M n (⟨y1.blocks⟩:ah)).bind fun LF=>
    (cJ (I.not (I.aJ LF.2 y2)) false (aH I M n LF.1 (⟨[]⟩:ah)) default).bind fun y19=>
    bif (I.pick (I.not (I.aJ LF.2 y2)) true (I.not y19))then
     some false
    else
     (aH I M n (⟨y1.blocks⟩:ah) (⟨a0.blocks⟩:ah)).bind fun NT=>
     bif (I.not NT)then
     some false
     else
     some true
  else
   (fe I M n (⟨y1.blocks⟩:ah)).bind fun Pk=>
   (cJ (I.not (I.aJ Pk.2 y2)) false (aH I M n Pk.1 (⟨[]⟩:ah)) default).bind fun QN=>
   bif (I.pick (I.not (I.aJ Pk.2 y2)) true (I.not QN))then
   some false
   else
   (aH I M n (⟨y1.blocks⟩:ah) (⟨a0.blocks⟩:ah)).bind fun ZO=>
   bif (I.not ZO)then
    some false
   else
    bif (I.aJ y2 0)then
    (gI a2 2).bind fun FT=>
    (cB I M n (⟨a0.blocks⟩:ah) FT).bind fun Rc=>
    (cd I M n (⟨y1.blocks⟩:ah)).bind fun VQ=>
    (cJ (I.not (I.aJ VQ.2 y2)) false (aH I M n VQ.1 Rc) default).bind fun y27=>
    bif (I.pick (I.not (I.aJ VQ.2 y2)) true (I.not y27))then
     some false
    else
     (aH I M n (⟨y1.blocks⟩:ah) (⟨a0.blocks⟩:ah)).bind fun NS=>
     bif (I.not NS)then
     some false
     else
     some true
    else
    (cd I M n (⟨y1.blocks⟩:ah)).bind fun Vp=>
    (cJ (I.not (I.aJ Vp.2 y2)) false (aH I M n Vp.1 (⟨[]⟩:ah)) default).bind fun EZ=>
    bif (I.pick (I.not (I.aJ Vp.2 y2)) true (I.not EZ))then
     some false
    else
     (aH I M n (⟨y1.blocks⟩:ah) (⟨a0.blocks⟩:ah)).bind fun Bg=>
     bif (I.not Bg)then
     some false
     else
     some true
 else
 (je I M n (⟨y1.blocks⟩:ah)).bind fun Rb=>
 (cJ (I.not (I.aJ Rb.2 y2)) false (aH I M n Rb.1 (⟨[]⟩:ah)) default).bind fun uZ=>
 bif (I.pick (I.not (I.aJ Rb.2 y2)) true (I.not uZ))then
  some false
 else
  (aH I M n (⟨y1.blocks⟩:ah) (⟨a0.blocks⟩:ah)).bind fun Vo=>
  bif (I.not Vo)then
  some false
  else
  bif (I.aJ y2 0)then
   (gI a2 1).bind fun oP=>
   (cB I M n (⟨a0.blocks⟩:ah) oP).bind fun y36=>
   (fe I M n (⟨y1.blocks⟩:ah)).bind fun ZN=>
   (cJ (I.not (I.aJ ZN.2 y2)) false (aH I M n ZN.1 y36) default).bind fun Vn=>
   bif (I.pick (I.not (I.aJ ZN.2 y2)) true (I.not Vn))then
   some false
   else
   (aH I M n (⟨y1.blocks⟩:ah) (⟨a0.blocks⟩:ah)).bind fun NR=>
   bif (I.not NR)then
    some false
   else
    bif (I.aJ y2 0)then
    (gI a2 2).bind fun x40=>
    (cB I M n (⟨a0.blocks⟩:ah) x40).bind fun LD=>
    (cd I M n (⟨y1.blocks⟩:ah)).bind fun QM=>
    (cJ (I.not (I.aJ QM.2 y2)) false (aH I M n QM.1 LD) default).bind fun y43=>
    bif (I.pick (I.not (I.aJ QM.2 y2)) true (I.not y43))then
     some false
    else
     (aH I M n (⟨y1.blocks⟩:ah) (⟨a0.blocks⟩:ah)).bind fun y44=>
     bif (I.not y44)then
     some false
     else
     some true
    else
    (cd I M n (⟨y1.blocks⟩:ah)).bind fun ZM=>
    (cJ (I.not (I.aJ ZM.2 y2)) false (aH I M n ZM.1 (⟨[]⟩:ah)) default).bind fun y46=>
    bif (I.pick (I.not (I.aJ ZM.2 y2)) true (I.not y46))then
     some false
    else
     (aH I M n (⟨y1.blocks⟩:ah) (⟨a0.blocks⟩:ah)).bind fun y47=>
     bif (I.not y47)then
     some false
     else
     some true
  else
   (fe I M n (⟨y1.blocks⟩:ah)).bind fun ZL=>
   (cJ (I.not (I.aJ ZL.2 y2)) false (aH I M n ZL.1 (⟨[]⟩:ah)) default).bind fun VP=>
   bif (I.pick (I.not (I.aJ ZL.2 y2)) true (I.not VP))then
   some false
   else
   (aH I M n (⟨y1.blocks⟩:ah) (⟨a0.blocks⟩:ah)).bind fun QL=>
   bif (I.not QL)then
    some false
   else
    bif (I.aJ y2 0)then
    (gI a2 2).bind fun x51=>
    (cB I M n (⟨a0.blocks⟩:ah) x51).bind fun Ja=>
    (cd I M n (⟨y1.blocks⟩:ah)).bind fun VO=>
    (cJ (I.not (I.aJ VO.2 y2)) false (aH I M n VO.1 Ja) default).bind fun Pj=>
    bif (I.pick (I.not (I.aJ VO.2 y2)) true (I.not Pj))then
     some false
    else
     (aH I M n (⟨y1.blocks⟩:ah) (⟨a0.blocks⟩:ah)).bind fun y55=>
     bif (I.not y55)then
     some false
     else
     some true
    else
    (cd I M n (⟨y1.blocks⟩:ah)).bind fun y56=>
    (cJ (I.not (I.aJ y56.2 y2)) false (aH I M n y56.1 (⟨[]⟩:ah)) default).bind fun y57=>
    bif (I.pick (I.not (I.aJ y56.2 y2)) true (I.not y57))then
     some false
    else
     (aH I M n (⟨y1.blocks⟩:ah) (⟨a0.blocks⟩:ah)).bind fun y58=>
     bif (I.not y58)then
     some false
     else
     some true
def mC(I:Pr)(M:Md)(n:Nat)(a0:ah):Option Bool:=
 (sP I M n (⟨a0.blocks⟩:ah)).bind fun y1=>
 bif y1 then
 (ji I M n).bind fun y2=>
 some y2
 else
 (fh I M n (⟨a0.blocks⟩:ah) ([1,2,5])).bind fun y3=>
 (cJ y3 true (ji I M n) default).bind fun y4=>
 some (I.pick y3 y4 false)
def Fj(I:Pr)(M:Md)(n:Nat)(a0:ah)(k:(List Bool)×Int→Option (List Bool))(self:(List Bool)×Int→Option (List Bool))(st:(List Bool)×Int):Option (List Bool):=
 match st with
 |(l1,z2)=>
 (some (aq a0.blocks)).bind fun n3=>
 bif (I.aV z2 n3)then
  (gI a0.blocks z2).bind fun x4=>
  (vq I M n x4).bind fun y5=>
  (aI 1 l1 y5).bind fun l6=>
  self (l6,(I.wrap .i64 (I.add z2 1)))
 else
  k (l1,z2)
def JI(I:Pr)(M:Md)(n:Nat)(a0:ah):Option (List Bool):=
 iter (Fj I M n a0 (fun(l7,z8)=>
  some l7)) n ([],0)
def DP(I:Pr)(M:Md)(n:Nat)(a0:ah)(n2:Int)(k:Int×(List Bool)→Option ((List Bool)×Int))(self:Int×(List Bool)→Option ((List Bool)×Int))(st:Int×(List Bool)):Option ((List Bool)×Int):=
 match st with
 |(z3,l4)=>
 bif (I.aV z3 n2)then
  (gI a0.blocks z3).bind fun x5=>
  (mw I M n x5).bind fun y6=>
  (aI 1 l4 y6).bind fun l7=>
  self ((I.wrap .i64 (I.add z3 1)),l7)
 else
  k (z3,l4)
def yW(I:Pr)(M:Md)(n:Nat)(a0:ah):Option ((List Bool)×Int):=
 (c4 I M n a0).bind fun y1=>
 bif (I.not (I.aJ y1 0))then
 some ([],y1)
 else
 (some (aq a0.blocks)).bind fun n2=>
 iter (DP I M n a0 n2 (fun(z8,l9)=>
  some (l9,0))) n (0,[])
def xd(I:Pr)(M:Md)(n:Nat)(a0:List Bool)(a1:List Bool)(n1:Int)(k:Int→Option Bool)(self:Int→Option Bool)(z3:Int):Option Bool:=
 bif (I.aV z3 n1)then
  (gI a0 z3).bind fun x4=>
  (gI a1 z3).bind fun x5=>
  bif (I.not (I.beq x4 x5))then
  some false
  else
  self (I.wrap .i64 (I.add z3 1))
 else
  k z3
def yM(I:Pr)(M:Md)(n:Nat)(a0:List Bool)(a1:List Bool):Option Bool:=
 (some (aq a0)).bind fun n1=>
 (some (aq a1)).bind fun n2=>
 bif (I.not (I.aJ n1 n2))then
 some false
 else
 iter (xd I M n a0 a1 n1 (fun z6=>
  some true)) n 0
def BL(I:Pr)(M:Md)(n:Nat)(a0:List Bool)(a1:List Bool):Option Bool:=
 (yM I M n a0 a1).bind fun y1=>
 some y1
def rD(I:Pr)(M:Md)(n:Nat)(a0:ah)(a2:List Int):Option Bool:=
 (nE I M n a0).bind fun y1=>
 (lD I M n a0).bind fun y2=>
 bif (I.aJ y2 0)then
 (gI a2 0).bind fun x3=>
 (cB I M n a0 x3).bind fun y4=>
 (kH I M n y1).bind fun y5=>
 (cJ (I.not (I.aJ y5.2 y2)) false (aH I M n y5.1 y4) default).bind fun y6=>
 bif (I.pick (I.not (I.aJ y5.2 y2)) true (I.not y6))then
  some false
 else
  (aH I M n y1 a0).bind fun y7=>
  bif (I.not y7)then
  some false
  else
  bif (I.aJ y2 0)then
   (gI a2 1).bind fun x8=>
   (cB I M n a0 x8).bind fun y9=>
   (gr I M n y1).bind fun qO=>
   (cJ (I.not (I.aJ qO.2 y2)) false (aH I M n qO.1 y9) default).bind fun sm=>
   bif (I.pick (I.not (I.aJ qO.2 y2)) true (I.not sm))then
   some false
   else
   (aH I M n y1 a0).bind fun CJ=>
   bif (I.not CJ)then
    some false
   else
    some true
  else
   (gr I M n y1).bind fun pW=>
   (cJ (I.not (I.aJ pW.2 y2)) false (aH I M n pW.1 (⟨[]⟩:ah)) default).bind fun E7=>
   bif (I.pick (I.not (I.aJ pW.2 y2)) true (I.not E7))then
   some false
   else
   (aH I M n y1 a0).bind fun Da=>
   bif (I.not Da)then
    some false
   else
    some true
 else
 (kH I M n y1).bind fun GY=>
 (cJ (I.not (I.aJ GY.2 y2)) false (aH I M n GY.1 (⟨[]⟩:ah)) default).bind fun y17=>
 bif (I.pick (I.not (I.aJ GY.2 y2)) true (I.not y17))then
  some false
 else
  (aH I M n y1 a0).bind fun LF=>
  bif (I.not LF)then
  some false
  else
  bif (I.aJ y2 0)then
   (gI a2 1).bind fun Hd=>
   (cB I M n a0 Hd).bind fun NT=>
   (gr I M n y1).bind fun Pk=>
   (cJ (I.not (I.aJ Pk.2 y2)) false (aH I M n Pk.1 NT) default).bind fun QN=>
   bif (I.pick (I.not (I.aJ Pk.2 y2)) true (I.not QN))then
   some false
   else
   (aH I M n y1 a0).bind fun ZO=>
   bif (I.not ZO)then
    some false
   else
    some true
  else
   (gr I M n y1).bind fun y24=>
   (cJ (I.not (I.aJ y24.2 y2)) false (aH I M n y24.1 (⟨[]⟩:ah)) default).bind fun Rc=>
   bif (I.pick (I.not (I.aJ y24.2 y2)) true (I.not Rc))then
   some false
   else
   (aH I M n y1 a0).bind fun VQ=>
   bif (I.not VQ)then
    some false
   else
    some true
def law19_PassesPuts(I:Pr)(M:Md)(n:Nat)(a0:ah):Option Bool:=
 (sP I M n a0).bind fun y1=>
 bif y1 then
 (ji I M n).bind fun y2=>
 some y2
 else
 (nE I M n a0).bind fun y3=>
 (lD I M n a0).bind fun y4=>
 bif (I.aJ y4 0)then
  (JI I M n a0).bind fun y5=>
  (yW I M n (⟨y3.blocks⟩:ah)).bind fun y6=>
  (cJ (I.aJ y6.2 y4) true (BL I M n y6.1 y5) default).bind fun y7=>
  (cJ (I.pick (I.aJ y6.2 y4) y7 false) true (aH I M n (⟨y3.blocks⟩:ah) (⟨a0.blocks⟩:ah)) default).bind fun y8=>
  (cJ (I.pick (I.pick (I.aJ y6.2 y4) y7 false) y8 false) true (rD I M n a0 ([3,4])) default).bind fun y9=>
  (cJ (I.pick (I.pick (I.pick (I.aJ y6.2 y4) y7 false) y8 false) y9 false) true (ji I M n) default).bind fun qO=>
  some (I.pick (I.pick (I.pick (I.pick (I.aJ y6.2 y4) y7 false) y8 false) y9 false) qO false)
 else
  (yW I M n (⟨y3.blocks⟩:ah)).bind fun sm=>
  (cJ (I.aJ sm.2 y4) true (BL I M n sm.1 []) default).bind fun CJ=>
  (cJ (I.pick (I.aJ sm.2 y4) CJ false) true (aH I M n (⟨y3.blocks⟩:ah) a0) default).bind fun pW=>
  (cJ (I.pick (I.pick (I.aJ sm.2 y4) CJ false) pW false) true (rD I M n a0 ([3,4])) default).bind fun E7=>
  (cJ (I.pick (I.pick (I.pick (I.aJ sm.2 y4) CJ false) pW false) E7 false) true (ji I M n) default).bind fun Da=>
  some (I.pick (I.pick (I.pick (I.pick (I.aJ sm.2 y4) CJ false) pW false) E7 false) Da false)
end Ab
namespace Ab
theorem ahP{α:Type}{enc:α→List AV}{M:Md}{r k:Nat}{l w:List α}(hM:M= .al)(q:some (l.take k)=some w){X:List (List AV)}(hX:X=List.take k (M.map enc l):=by first|rfl|rw[List.take.eq_def]):AV.sl r X=AV.sl r (M.map enc w):=by
 cases q;rw[hX];exact RB hM l k
end Ab
namespace Ab
open Go
def Iz{α:Type}:List Bool→(List Bool→α)→α
 |[],k=>k []
 |true::r,k=>Iz r fun q=>k (true::q)
 |false::r,k=>Iz r fun q=>k (false::q)
theorem AY{α:Type}: ∀(l:List Bool) (k:List Bool→α),Iz l k=k l
 |[],_=>rfl
 |true::r,k=>AY r fun q=>k (true::q)
 |false::r,k=>AY r fun q=>k (false::q)
def A0{α:Type}(l:Array Bool)(k:Array Bool→α):α:=Iz l.toList fun r=>k ⟨r⟩
theorem AZ{α:Type}(l:Array Bool)(k:Array Bool→α):A0 l k=k l:=by
 unfold A0;rw[AY]
def Cy(cl:Nat→Bool)(ops:Array Oper):Tree→Nat→Array Bool→Option (List Nat)→Bool
 | .done,_,l,none=>(Region.ready .any ops l).isEmpty
 | .one i t,f+1,l,none=>Hr cl ops l i&&A0 (l.setIfInBounds i true) fun q=>Cy cl ops t f q none
 | .fork i t u,f+1,l,none=>match Region.ready .any ops l with
  |r::rs=>cS r i&&(A0 (l.setIfInBounds i true) fun q=>Cy cl ops t f q none)&&Cy cl ops u (f+1) l (some rs)
  |[]=>false
 | .fork i t u,f+1,l,some (r::rs)=>cS r i&&(A0 (l.setIfInBounds i true) fun q=>Cy cl ops t f q none)&&Cy cl ops u (f+1) l (some rs)
 | .nil,_+1,_,some []=>true
 |_,_,_,_=>false
theorem Zp(cl:Nat→Bool)(ops:Array Oper): ∀(t:Tree) (f:Nat) (l:Array Bool) (o:Option (List Nat)),Cy cl ops t f l o=Ba cl ops t f l o:=by
 intro t
 induction t with
 |done=>intro f l o;cases o<;>simp only[Cy,Ba]
 |nil=>intro f l o;cases f<;>rcases o with _|_|_<;>simp only[Cy,Ba]
 |one i t ih=>intro f l o;cases f<;>cases o<;>simp only[Cy,Ba,AZ,ih]
 |fork i t u ih1 ih2=>
  intro f l o
  cases f with
  |zero=>cases o<;>simp only[Cy,Ba]
  |succ f=>rcases o with _|_|_<;>simp only[Cy,Ba,AZ,ih1,ih2]<;>rfl
def Q3:Code→List (Nat×Array Oper)
 | .region id ops true=>[(id,ops)]
 | .seq a b=>Q3 a++Q3 b
 | .cond _ a b=>Q3 a++Q3 b
 | .block _ a=>Q3 a
 | .loop a=>Q3 a
 | .scope a=>Q3 a
 | .rangeFunc _ _ a b=>Q3 a++Q3 b
 |_=>[]
def afv(cl:Nat→Bool)(T:Nat→Tree)(p:Nat×Array Oper):Bool:=Region.noSelect p.2&&A0 (Array.replicate p.2.size false) fun l=>Cy cl p.2 (T p.1) p.2.size l none
def Qt(cl:Nat→Bool)(T:Nat→Tree)(c:Code)(k:Nat):Bool:=match(Q3 c)[k]? with
 |some p=>afv cl T p
 |none=>true
def rB:Code→Bool
 | .seq a b=>rB a&&rB b
 | .cond _ a b=>rB a&&rB b
 | .block _ a=>rB a
 | .loop a=>rB a
 | .scope a=>rB a
 | .rangeFunc _ _ a b=>(uT a&&uT b)&&(rB a&&rB b)
 |_=>true
theorem iv(cl:Nat→Bool)(T:Nat→Tree): ∀c:Code,rB c=true→(∀p∈Q3 c,afv cl T p=true)→cg cl T c=true
 | .region id ops true,_,h=>by
  have:=h _ (List.mem_singleton.2 rfl)
  unfold afv at this
  rw[AZ,Zp]at this
  exact this
 | .region _ _ false,_,_=>rfl
 | .seq a b,n,h=>by
  simp only[rB,Bool.and_eq_true]at n
  simp only[cg,Bool.and_eq_true]
  exact⟨iv cl T a n.1 fun p hp=>h p (List.mem_append.2 (.inl hp)),iv cl T b n.2 fun p hp=>h p (List.mem_append.2 (.inr hp))⟩
 | .cond _ a b,n,h=>by
  simp only[rB,Bool.and_eq_true]at n
  simp only[cg,Bool.and_eq_true]
  exact⟨iv cl T a n.1 fun p hp=>h p (List.mem_append.2 (.inl hp)),iv cl T b n.2 fun p hp=>h p (List.mem_append.2 (.inr hp))⟩
 | .block _ a,n,h=>iv cl T a n h
 | .loop a,n,h=>iv cl T a n h
 | .scope a,n,h=>iv cl T a n h
 | .rangeFunc _ _ a b,n,h=>by
  simp only[rB,Bool.and_eq_true]at n
  simp only[cg,Bool.and_eq_true]
  exact⟨n.1,iv cl T a n.2.1 fun p hp=>h p (List.mem_append.2 (.inl hp)),iv cl T b n.2.2 fun p hp=>h p (List.mem_append.2 (.inr hp))⟩
 | .skip,_,_| .exit _,_,_| .label _,_,_| .goto _,_,_| .ret,_,_| .refuse _,_,_=>rfl
theorem UQ{cl:Nat→Bool}{T:Nat→Tree}{c:Code}(n:Nat)(hn:rB c=true:=by kernel_rfl)(hl:(Q3 c).length=n:=by kernel_rfl)(h: ∀k,k<n→Qt cl T c k=true):cg cl T c=true:=by
 refine iv cl T c hn fun p hp=>?_
 obtain⟨k,hk,e⟩:=List.getElem_of_mem hp
 have:=h k (hl▸hk)
 unfold Qt at this
 rw[List.getElem?_eq_getElem hk]at this
 rw[e]at this
 exact this
end Ab
namespace Ab
open Go
variable{P:Program}{E:Env}{w w':World}{a:Act}
theorem count_set{l:List Bool}{i:Nat}(h:l[i]? =some false):(l.set i true).count false+1=l.count false:=by
 obtain⟨h1,h2⟩:=List.getElem?_eq_some_iff.1 h
 have h3:0<l.count false:=List.count_pos_iff.2 (by rw[←h2];exact List.getElem_mem h1)
 rw[List.count_set h1,h2]
 simp
 omega
theorem Pd{cl:Nat→Bool}{ops:Array Oper}{Q:Exit→Act→World→Prop}(Inv:Array Bool→Act→World→Prop)(Ur: ∀l a w,Inv l a w→Region.ready .any ops l=[]→Q .normal a w)
  (aav: ∀l a w i,Inv l a w→i∈Region.ready .any ops l→jI P cl ops Q i (Inv (l.setIfInBounds i true)) a w):
  ∀(fuel:Nat) (l:Array Bool) (a:Act) (w:World),Inv l a w→l.toList.count false≤fuel→p6 P cl .any ops Q fuel l a w
 |0,l,a,w,h,hc=>by
  have hr:Region.ready .any ops l=[]:=by
   apply List.eq_nil_iff_forall_not_mem.2
   intro j hj
   have h1:=(mem_ready.1 hj).1
   have h2:false∈l.toList:=by
    rw[Array.getD_eq_getD_getElem?]at h1
    cases h3:l[j]? with
    |none=>rw[h3]at h1;simp at h1
    |some b=>rw[h3]at h1;simp at h1;subst h1;rw[←Array.getElem?_toList]at h3;exact List.mem_of_getElem? h3
   have:=List.count_pos_iff.2 h2
   omega
  exact⟨hr,Ur l a w h hr⟩
 |fuel+1,l,a,w,h,hc=>by
  refine⟨fun hr=>Ur l a w h hr,fun i hi=>xM (fun a' w' h'=>?_) (aav l a w i h hi)⟩
  refine Pd Inv Ur aav fuel _ a' w' h' ?_
  have h1:=(mem_ready.1 hi).1
  have h3:l.toList[i]? =some false:=by
   rw[Array.getD_eq_getD_getElem?]at h1
   rw[Array.getElem?_toList]
   cases h3:l[i]? with
   |none=>rw[h3]at h1;simp at h1
   |some b=>rw[h3]at h1;simp at h1;subst h1;rfl
  have:=count_set h3
  rw[Array.toList_setIfInBounds]
  omega
theorem lI{cl:Nat→Bool}{ops:Array Oper}{Q:Exit→Act→World→Prop}{i:Nat}{o:Oper}{K:Act→World→Prop}{x:Value}(hi:ops[i]? =some o)(hg:o.guard=none)(hr:(execOp a.eval o).run P w= .ok (.value x) w)(hk:K (a.put o.dst x) w):jI P cl ops Q i K a w:=by
 unfold jI
 rw[hi]
 dsimp only
 rw[if_pos (by simp[Region.wanted,hg])]
 unfold lj
 rw[hr]
 exact⟨hk,fun _=>bU.refl w⟩
theorem J9{cl:Nat→Bool}{ops:Array Oper}{Q:Exit→Act→World→Prop}{i:Nat}{o:Oper}{K:Act→World→Prop}(hi:ops[i]? =some o)(hg:o.guard=none)(hc:EH cl o.op=false)(hr:(execOp a.eval o).run P w= .ok .skip w')(hk:K (a.put o.dst undef) w'):jI P cl ops Q i K a w:=by
 unfold jI
 rw[hi]
 dsimp only
 rw[if_pos (by simp[Region.wanted,hg])]
 unfold lj
 rw[hr]
 exact⟨hk,fun h=>by rw[hc]at h;cases h⟩
abbrev FL:=List (Nat×Nat×Value)
def FOk(F:FL)(l:Array Bool)(a:Act):Prop:= ∀x∈F,l.getD x.1 false=true→a.tmps.getD x.2.1 undef=x.2.2
def FU(F:FL):Prop:= ∀x∈F,∀y∈F,(x.1=y.1→x=y)∧(x.2.1=y.2.1→x=y)
theorem GF{l:Array Bool}{i j:Nat}(h:(l.setIfInBounds i true).getD j false=true):j=i∨l.getD j false=true:=by
 simp only[Array.getD_eq_getD_getElem?,Array.getElem?_setIfInBounds]at h ⊢
 by_cases hij:i=j
 ·exact .inl hij.symm
 ·rw[if_neg hij]at h;exact .inr h
theorem FOk.put{F:FL}{l:Array Bool}{i d:Nat}{v:Value}(hU:FU F)(h:FOk F l a)(hm:(i,d,v)∈F)(hd:d<a.tmps.size):FOk F (l.setIfInBounds i true) (a.put (some d) v):=by
 intro x hx hl
 rw[vk a d x.2.1 v hd]
 by_cases hxd:x.2.1=d
 ·rw[if_pos hxd]
  have:=(hU x hx _ hm).2 hxd
  rw[this]
 ·rw[if_neg hxd]
  rcases GF hl with h1|h1
  ·have:=(hU x hx _ hm).1 h1
   rw[this]at hxd
   exact absurd rfl hxd
  ·exact h x hx h1
theorem FOk.skip{F:FL}{l:Array Bool}{i:Nat}(h:FOk F l a)(hn: ∀x∈F,x.1≠i):FOk F (l.setIfInBounds i true) a:=fun x hx hl=>by
 rcases GF hl with h1|h1
 ·exact absurd h1 (hn x hx)
 ·exact h x hx h1
def fP:Value:= .string ⟨#[109,111,114,101]⟩
def hp3(H:Array Obj)(B2 bo oo:Nat)(c2 cO:Array Value)(e2 eO:Nat)(b6 b9:Bool):Array Obj:=
 let H6:=bif b6 then H.setIfInBounds B2 (.cells (c2.setIfInBounds 0 fP) e2 (0,0))else H
 bif b9 then H6.setIfInBounds bo (.cells (cO.setIfInBounds (oo+5) fP) eO (0,0))else H6
theorem Ua{H:Array Obj}{B2 bo oo:Nat}{c2 cO:Array Value}{e2 eO:Nat}{b6 b9:Bool}(h2:H[B2]? =some (.cells c2 e2 (0,0)))(cM:bo≠B2):(hp3 H B2 bo oo c2 cO e2 eO b6 b9)[B2]? =some (.cells (bif b6 then c2.setIfInBounds 0 fP else c2) e2 (0,0)):=by
 obtain⟨aU,_⟩:=Array.getElem?_eq_some_iff.1 h2
 have h6:(bif b6 then H.setIfInBounds B2 (Obj.cells (c2.setIfInBounds 0 fP) e2 (0,0))else H)[B2]? =some (.cells (bif b6 then c2.setIfInBounds 0 fP else c2) e2 (0,0)):=by
  cases b6 with
  |false=>exact h2
  |true=>simp[aU]
 unfold hp3
 cases b9 with
 |false=>exact h6
 |true=>show(Array.setIfInBounds _ _ _)[B2]? =_;rw[Array.getElem?_setIfInBounds_ne cM];exact h6
theorem aeW{H:Array Obj}{B2 bo oo:Nat}{c2 cO:Array Value}{e2 eO:Nat}{b6:Bool}(hO:H[bo]? =some (.cells cO eO (0,0)))(cM:bo≠B2):(hp3 H B2 bo oo c2 cO e2 eO b6 false)[bo]? =some (.cells cO eO (0,0)):=by
 unfold hp3
 cases b6 with
 |false=>exact hO
 |true=>show(Array.setIfInBounds _ _ _)[bo]? =_;rw[Array.getElem?_setIfInBounds_ne (Ne.symm cM)];exact hO
theorem T9{H:Array Obj}{B2 bo oo b o:Nat}{c2 cO:Array Value}{e2 eO:Nat}{b6:Bool}(cM:b≠B2):aR (hp3 H B2 bo oo c2 cO e2 eO b6 false) b o=aR H b o:=by
 have h:(hp3 H B2 bo oo c2 cO e2 eO b6 false)[b]? =H[b]? :=by
  unfold hp3
  cases b6 with
  |false=>rfl
  |true=>show(Array.setIfInBounds _ _ _)[b]? =_;rw[Array.getElem?_setIfInBounds_ne (Ne.symm cM)]
 unfold aR
 rw[h]
theorem Ko{t b q:Nat}{ti:TI}{y:Value}{L:nO}(hL:bn P L)(ht:L t=some ti)(sW:ti.agg=false)(hl:ti.size=1)(hy:aR w.heap b q=some y):(Instr.loadAt t (.pointer (some ⟨b,q,none⟩))).run P w= .ok y w:=by
 have hp:part ti [AV.v y] 0=some (.v y):=by
  unfold part
  rw[show lL (0+ti.size) [AV.v y].length=true by rw[ye];simp[hl],sW]
  rfl
 obtain⟨y',g1,g2⟩:=iV (P:=P) (E:=⟨#[],fun _ _=>False,fun _=>0,fun _=>0,fun _=>False,fun _=>(0,0),fun _=> .Tu,[]⟩) (w:=w) hL ht (b:=b) (o:=q) hp (fun j a' ha=>by
  cases j with
  |zero=>cases ha;exact⟨y,hy,.v _⟩
  |succ j=>simp at ha)
 have:=bG g2
 subst this
 simpa using g1
theorem Ga{t b q e:Nat}{ti:TI}{c:Array Value}{s:ByteArray}{L:nO}(hL:bn P L)(ht:L t=some ti)(hl:ti.size=1)(hb:w.heap[b]? =some (.cells c e (0,0)))(hq:q<c.size):
  ∃w',(Instr.storeAt t (.pointer (some ⟨b,q,none⟩)) (.string s)).run P w= .ok () w'∧w'.heap=w.heap.setIfInBounds b (.cells (c.setIfInBounds q (.string s)) e (0,0))∧iz w w':=by
 have iH:(Value.string s).cells= #[.string s]:=rfl
 obtain⟨w',g1,g2,g3⟩:=run_store (P:=P) hL ht (off:=q) (v:= .string s) hb (by rw[iH];exact hl.symm) (by omega) (by rw[iH];intro x hx;simp at hx;subst hx;rfl)
 rw[iH]at g2
 exact⟨w',g1,by rw[g2];rfl,g3⟩
theorem fR{l:Array Bool}{i j:Nat}(h:j≠i):(l.setIfInBounds i true).getD j false=l.getD j false:=by
 simp only[Array.getD_eq_getD_getElem?,Array.getElem?_setIfInBounds_ne (Ne.symm h)]
theorem AW{l:Array Bool}{i:Nat}(h:i<l.size):(l.setIfInBounds i true).getD i false=true:=by
 simp[Array.getD_eq_getD_getElem?,h]
structure zX(w0:World)(H:Array Obj)(B2 bo oo:Nat)(c2 cO:Array Value)(e2 eO:Nat)(df:List Deferred)(base:Nat→Value)(F:FL)(l:Array Bool)(a:Act)(w:World):Prop where
 sz:l.size=10
 heap:w.heap=hp3 H B2 bo oo c2 cO e2 eO (l.getD 6 false) (l.getD 9 false)
 same:iz w0 w
 last:l.getD 9 false=true→ ∀j,j<9→l.getD j false=true
 c8:l.getD 8 false=true→l.getD 7 false=true
 tm:a.tmps.size=29
 df:a.defers=df
 base: ∀d,d<3→a.tmps.getD d undef=base d
 fs:FOk F l a
section
variable{w0:World}{H:Array Obj}{B2 bo oo:Nat}{c2 cO:Array Value}{e2 eO:Nat}{df:List Deferred}{base:Nat→Value}{F:FL}{l:Array Bool}
theorem zX.no9(h:zX w0 H B2 bo oo c2 cO e2 eO df base F l a w){i:Nat}(hi:i<9)(hu:l.getD i true=false):l.getD 9 false=false:=by
 cases h9:l.getD 9 false with
 |false=>rfl
 |true=>
  have:=h.last h9 i hi
  have aU:i<l.size:=by rw[h.sz];omega
  simp only[Array.getD_eq_getD_getElem?,Array.getElem?_eq_getElem aU,Option.getD_some]at this hu
  rw[this]at hu;cases hu
theorem zX.put(h:zX w0 H B2 bo oo c2 cO e2 eO df base F l a w){i d:Nat}{v:Value}(hU:FU F)(hi:i<9)(h6:i≠6)(hu:l.getD i true=false)(hm:(i,d,v)∈F)(hd:3≤d∧d<29)(h8:i=8→l.getD 7 false=true):
  zX w0 H B2 bo oo c2 cO e2 eO df base F (l.setIfInBounds i true) (a.put (some d) v) w:=by
 have h9:=h.no9 hi hu
 refine⟨by simpa using h.sz,?_,h.same,fun hh=>?_,fun hh=>?_,by simp[Act.put,h.tm],h.df,fun d' na=>?_,h.fs.put hU hm (by rw[h.tm];exact hd.2)⟩
 ·rw[fR (Ne.symm h6),fR (by omega)];exact h.heap
 ·rw[fR (by omega),h9]at hh;cases hh
 ·by_cases h7:i=7
  ·subst h7;exact AW (by rw[h.sz];decide)
  ·rw[fR (Ne.symm h7)]
   by_cases h8':i=8
   ·exact h8 h8'
   ·rw[fR (Ne.symm h8')]at hh;exact h.c8 hh
 ·rw[vk a d d' v (by rw[h.tm];exact hd.2),if_neg (by omega)];exact h.base d' na
theorem zX.s6(h:zX w0 H B2 bo oo c2 cO e2 eO df base F l a w)(hu:l.getD 6 true=false)(hF: ∀x∈F,x.1≠6){w':World}(h2:H[B2]? =some (.cells c2 e2 (0,0)))(hh:w'.heap=w.heap.setIfInBounds B2 (.cells (c2.setIfInBounds 0 fP) e2 (0,0)))(hs:iz w w'):
  zX w0 H B2 bo oo c2 cO e2 eO df base F (l.setIfInBounds 6 true) a w':=by
 have h9:=h.no9 (by decide) hu
 have h6:l.getD 6 false=false:=by
  have aU:6<l.size:=by rw[h.sz];omega
  simp only[Array.getD_eq_getD_getElem?,Array.getElem?_eq_getElem aU,Option.getD_some]at hu ⊢
  exact hu
 refine⟨by simpa using h.sz,?_,h.same.trans hs,fun hh=>?_,fun hh=>by rw[fR (by decide)]at hh ⊢;exact h.c8 hh,h.tm,h.df,h.base,h.fs.skip hF⟩
 ·rw[hh,h.heap,AW (by rw[h.sz];decide),fR (by decide),h9,h6];rfl
 ·rw[fR (by decide),h9]at hh;cases hh
theorem zX.s9(h:zX w0 H B2 bo oo c2 cO e2 eO df base F l a w)(hu:l.getD 9 true=false)(hF: ∀x∈F,x.1≠9)(jE: ∀j,j<9→j≠7→l.getD j false=true){w':World}(hh:w'.heap=w.heap.setIfInBounds bo (.cells (cO.setIfInBounds (oo+5) fP) eO (0,0)))(hs:iz w w'):
  zX w0 H B2 bo oo c2 cO e2 eO df base F (l.setIfInBounds 9 true) a w':=by
 have h9:l.getD 9 false=false:=by
  have aU:9<l.size:=by rw[h.sz];omega
  simp only[Array.getD_eq_getD_getElem?,Array.getElem?_eq_getElem aU,Option.getD_some]at hu ⊢
  exact hu
 have aj5: ∀j,j<9→l.getD j false=true:=fun j hj=>by
  by_cases h7:j=7
  ·subst h7;exact h.c8 (jE 8 (by decide) (by decide))
  ·exact jE j hj h7
 refine⟨by simpa using h.sz,?_,h.same.trans hs,fun _ j hj=>?_,fun hh=>by rw[fR (by decide)]at hh ⊢;exact h.c8 hh,h.tm,h.df,h.base,h.fs.skip hF⟩
 ·rw[hh,h.heap,AW (by rw[h.sz];decide),fR (by decide),h9];rfl
 ·rw[fR (by omega)];exact aj5 j hj
end
def rp:Nat→Op×Option Nat
 |0=>(.fieldAddr 57 (.tmp 2) 2,some 14)
 |1=>(.load 55 (.tmp 14),some 15)
 |2=>(.indexAddr 55 (.tmp 15) (.const (.int .i64 0)),some 16)
 |3=>(.fieldAddr 61 (.tmp 16) 2,some 17)
 |4=>(.load 59 (.tmp 17),some 18)
 |5=>(.fieldAddr 57 (.tmp 2) 0,some 19)
 |6=>(.store 9 (.tmp 19) (.const fP),none)
 |7=>(.indexAddr 59 (.tmp 18) (.const (.int .i64 1)),some 20)
 |8=>(.fieldAddr 64 (.tmp 20) 1,some 21)
 |_=>(.store 9 (.tmp 21) (.const fP),none)
def mA:Nat→Nat→Bool
 |1,0=>true
 |2,1=>true
 |3,2=>true
 |4,3=>true
 |6,5=>true
 |7,4=>true
 |8,7=>true
 |9,j=>decide (j<9)&& !decide (j=7)
 |_,_=>false
def F3(B2 bb ob nb cb bo oo no co:Nat):FL:=
 [(0,14,.pointer (some ⟨B2,2,none⟩)),(1,15,.slice (some ⟨bb,ob,none⟩) nb cb),(2,16,.pointer (some ⟨bb,ob,none⟩)),(3,17,.pointer (some ⟨bb,ob+2,none⟩)),(4,18,.slice (some ⟨bo,oo,none⟩) no co),
  (5,19,.pointer (some ⟨B2,0,none⟩)),(7,20,.pointer (some ⟨bo,oo+4,none⟩)),(8,21,.pointer (some ⟨bo,oo+5,none⟩))]
theorem fu3{B2 bb ob nb cb bo oo no co:Nat}:FU (F3 B2 bb ob nb cb bo oo no co):=by
 intro x hx y hy
 simp only[F3,List.mem_cons,List.mem_nil_iff,or_false]at hx hy
 rcases hx with rfl|rfl|rfl|rfl|rfl|rfl|rfl|rfl<;>rcases hy with rfl|rfl|rfl|rfl|rfl|rfl|rfl|rfl<;>simp
theorem aiO{cl:Nat→Bool}{ops:Array Oper}{Q:Exit→Act→World→Prop}(hk: ∀i,i<10→ ∃o,ops[i]? =some o∧o.guard=none∧o.op=(rp i).1∧o.dst=(rp i).2)
  (apv: ∀(l:Array Bool) i,i∈Region.ready .any ops l→i<10∧ ∀j,mA i j=true→l.getD j false=true)
  {w0:World}{H:Array Obj}{B2 bb ob nb cb bo oo no co:Nat}{c2 cO:Array Value}{e2 eO:Nat}{df:List Deferred}{base:Nat→Value}
  (Cn:base 2= .pointer (some ⟨B2,0,none⟩))(h2:H[B2]? =some (.cells c2 e2 (0,0)))(h20:0<c2.size)(h22:c2[2]? =some (.slice (some ⟨bb,ob,none⟩) nb cb))(VC:0<nb)(hbr:aR H bb (ob+2)=some (.slice (some ⟨bo,oo,none⟩) no co))(Fx:1<no)
  (hO:H[bo]? =some (.cells cO eO (0,0)))(hO5:oo+5<cO.size)(cM:bo≠B2)(ao9:bb≠B2)
  (Ur: ∀l a w,zX w0 H B2 bo oo c2 cO e2 eO df base (F3 B2 bb ob nb cb bo oo no co) l a w→Region.ready .any ops l=[]→Q .normal a w)
  {l:Array Bool}{a:Act}{w:World}(h:zX w0 H B2 bo oo c2 cO e2 eO df base (F3 B2 bb ob nb cb bo oo no co) l a w)(fuel:Nat)(hf:l.toList.count false≤fuel):p6 PP cl .any ops Q fuel l a w:=by
 refine Pd (fun l a w=>zX w0 H B2 bo oo c2 cO e2 eO df base (F3 B2 bb ob nb cb bo oo no co) l a w) Ur (fun l a w i h hi=>?_) fuel l a w h hf
 obtain⟨Ah,hd⟩:=apv l i hi
 have hu:=(mem_ready.1 hi).1
 obtain⟨o,ho,hg,BM,r8⟩:=hk i Ah
 have ev: ∀{j d:Nat} {v:Value},(j,d,v)∈F3 B2 bb ob nb cb bo oo no co→l.getD j false=true→a.eval (.tmp d)=v:=fun hm hl=>h.fs _ hm hl
 have e2':a.eval (.tmp 2)= .pointer (some ⟨B2,0,none⟩):=(h.base 2 (by decide)).trans Cn
 match i,Ah,BM,r8,hd,hu,ho with
 |0,_,BM,r8,hd,hu,ho=>
  refine lI ho hg (x:= .pointer (some ⟨B2,2,none⟩)) ?_ (by rw[r8];exact h.put fu3 (by decide) (by decide) hu (by simp[F3]) (by decide) (by simp))
  simp only[execOp,BM,rp,e2']
  simp[lB (P:=PP) lay (show fS L 57 2=some 2 from rfl)]
 |1,_,BM,r8,hd,hu,ho=>
  refine lI ho hg (x:= .slice (some ⟨bb,ob,none⟩) nb cb) ?_ (by rw[r8];exact h.put fu3 (by decide) (by decide) hu (by simp[F3]) (by decide) (by simp))
  have hc:aR w.heap B2 2=some (.slice (some ⟨bb,ob,none⟩) nb cb):=by
   rw[h.heap]
   unfold aR
   rw[Ua h2 cM]
   cases l.getD 6 false with
   |false=>exact h22
   |true=>show(c2.setIfInBounds 0 fP)[2]? =_;rw[Array.getElem?_setIfInBounds_ne (by decide)];exact h22
  have:=Ko (P:=PP) (t:=55) lay (show L 55=some _ from rfl) rfl rfl hc
  simp only[execOp,BM,rp,ev (j:=0) (d:=14) (by simp[F3];rfl) (hd 0 rfl)]
  simp[this]
 |2,_,BM,r8,hd,hu,ho=>
  refine lI ho hg (x:= .pointer (some ⟨bb,ob,none⟩)) ?_ (by rw[r8];exact h.put fu3 (by decide) (by decide) hu (by simp[F3]) (by decide) (by simp))
  have:=iW (P:=PP) (t:=55) lay (show elemOf L 55=some (61,_)from rfl) .i64 0 bb ob nb cb (by decide) (by omega) w
  simp only[execOp,BM,rp,ev (j:=1) (d:=15) (by simp[F3];rfl) (hd 1 rfl)]
  simp at this
  simp[Act.eval,this]
 |3,_,BM,r8,hd,hu,ho=>
  refine lI ho hg (x:= .pointer (some ⟨bb,ob+2,none⟩)) ?_ (by rw[r8];exact h.put fu3 (by decide) (by decide) hu (by simp[F3]) (by decide) (by simp))
  simp only[execOp,BM,rp,ev (j:=2) (d:=16) (by simp[F3];rfl) (hd 2 rfl)]
  simp[lB (P:=PP) lay (show fS L 61 2=some 2 from rfl)]
 |4,_,BM,r8,hd,hu,ho=>
  refine lI ho hg (x:= .slice (some ⟨bo,oo,none⟩) no co) ?_ (by rw[r8];exact h.put fu3 (by decide) (by decide) hu (by simp[F3]) (by decide) (by simp))
  have hc:aR w.heap bb (ob+2)=some (.slice (some ⟨bo,oo,none⟩) no co):=by
   rw[h.heap,h.no9 (by decide) hu,T9 ao9];exact hbr
  have:=Ko (P:=PP) (t:=59) lay (show L 59=some _ from rfl) rfl rfl hc
  simp only[execOp,BM,rp,ev (j:=3) (d:=17) (by simp[F3];rfl) (hd 3 rfl)]
  simp[this]
 |5,_,BM,r8,hd,hu,ho=>
  refine lI ho hg (x:= .pointer (some ⟨B2,0,none⟩)) ?_ (by rw[r8];exact h.put fu3 (by decide) (by decide) hu (by simp[F3]) (by decide) (by simp))
  simp only[execOp,BM,rp,e2']
  simp[lB (P:=PP) lay (show fS L 57 0=some 0 from rfl)]
 |6,_,BM,r8,hd,hu,ho=>
  have h6:l.getD 6 false=false:=by
   have aU:6<l.size:=by rw[h.sz];omega
   simp only[Array.getD_eq_getD_getElem?,Array.getElem?_eq_getElem aU,Option.getD_some]at hu ⊢
   exact hu
  have hc:w.heap[B2]? =some (.cells c2 e2 (0,0)):=by rw[h.heap,Ua h2 cM,h6];rfl
  obtain⟨w',g1,g2,g3⟩:=Ga (P:=PP) (t:=9) (s:=⟨#[109,111,114,101]⟩) lay (show L 9=some _ from rfl) rfl hc (q:=0) h20
  refine J9 ho hg (by rw[BM];rfl) ?_ (by rw[r8];exact h.s6 hu (by simp[F3]) h2 g2 g3)
  simp only[execOp,BM,rp,ev (j:=5) (d:=19) (by simp[F3];rfl) (hd 5 rfl)]
  simp[Act.eval,fP,g1]
 |7,_,BM,r8,hd,hu,ho=>
  refine lI ho hg (x:= .pointer (some ⟨bo,oo+4,none⟩)) ?_ (by rw[r8];exact h.put fu3 (by decide) (by decide) hu (by simp[F3]) (by decide) (by simp))
  have:=iW (P:=PP) (t:=59) lay (show elemOf L 59=some (64,_)from rfl) .i64 1 bo oo no co (by decide) (by omega) w
  simp only[execOp,BM,rp,ev (j:=4) (d:=18) (by simp[F3];rfl) (hd 4 rfl)]
  simp at this
  simp[Act.eval,this]
 |8,_,BM,r8,hd,hu,ho=>
  refine lI ho hg (x:= .pointer (some ⟨bo,oo+5,none⟩)) ?_ (by rw[r8];exact h.put fu3 (by decide) (by decide) hu (by simp[F3]) (by decide) (fun _=>hd 7 rfl))
  simp only[execOp,BM,rp,ev (j:=7) (d:=20) (by simp[F3];rfl) (hd 7 rfl)]
  simp[lB (P:=PP) lay (show fS L 64 1=some 1 from rfl)]
 |9,_,BM,r8,hd,hu,ho=>
  have h9:l.getD 9 false=false:=by
   have aU:9<l.size:=by rw[h.sz];omega
   simp only[Array.getD_eq_getD_getElem?,Array.getElem?_eq_getElem aU,Option.getD_some]at hu ⊢
   exact hu
  have hc:w.heap[bo]? =some (.cells cO eO (0,0)):=by rw[h.heap,h9];exact aeW hO cM
  obtain⟨w',g1,g2,g3⟩:=Ga (P:=PP) (t:=9) (s:=⟨#[109,111,114,101]⟩) lay (show L 9=some _ from rfl) rfl hc hO5
  refine J9 ho hg (by rw[BM];rfl) ?_ (by rw[r8];exact h.s9 hu (by simp[F3]) (fun j hj h7=>hd j (by simp[mA,hj,h7])) g2 g3)
  simp only[execOp,BM,rp,ev (j:=8) (d:=21) (by simp[F3];rfl) (hd 8 (by decide))]
  simp[Act.eval,fP,g1]
 |n+10,Ah,_,_,_,_,_=>omega
theorem bq.ahV{E0:Env}{w0:World}{s:St}(h:bq E0 E w0 w s a){d:Nat}{cs cs':List AV}(hk:look d s.b=some (.box cs))(hl:cs'.length=cs.length)
  (hc: ∀c e,E.h[E.m (.s d)]? =some (.cells c e (0,0))→ ∀(q:Nat) (av:AV) (x:Value),cs'[q]? =some av→c[q]? =some x→Cz E av x):bq E0 E w0 w {s with b:=cR d (.box cs') s.b} a:=by
 have hp: ∀p:Path,aY {s with b:=cR d (.box cs') s.b} p↔aY s p:=fun p=>lF fun _ _=>rfl
 refine⟨h.heap,h.wf,h.I8,h.up,h.sz,fun d' x hd wX=>h.tm d' x hd ((hp _).1 wX),fun d' q hd wX=>h.cu d' q hd fun hh=>wX ((hp _).2 hh),fun d' ob hd=>?_,fun d' hlv=>?_,h.gx,h.gl,h.ext,h.xz,h.same,h.gk,h.nl,h.ng,h.lo⟩
 ·have hd:look d' (cR d (.box cs') s.b)=some ob:=hd
  rw[aF]at hd
  by_cases so:d=d'
  ·subst so
   rw[if_pos rfl]at hd
   cases hd
   obtain⟨h1,c,e,h2,h3,h4,h5,_⟩:=h.bx d _ hk
   exact⟨h1,c,e,h2,h3,h4,h5.trans hl.symm,hc c e h2⟩
  ·rw[if_neg so]at hd;exact h.bx d' ob hd
 ·obtain⟨ob,ho⟩:=h.lv d' hlv
  show∃ob,look d' (cR d (.box cs') s.b)=some ob
  rw[aF]
  by_cases so:d=d'
  ·exact⟨_,if_pos so⟩
  ·exact⟨ob,by rw[if_neg so];exact ho⟩
end Ab
namespace Ab
open Go
variable{P:Program}{E E' E0:Env}{w w' w0:World}{a:Act}{s:St}
 mutual
def Ib(x:Value):AV→Prop
  | .v y=>y≠x
  | .sl _ xs=>Kc x xs
  |_=>False
def noL(x:Value):List AV→Prop
  |[]=>True
  |a::l=>Ib x a∧noL x l
def Kc(x:Value):List (List AV)→Prop
  |[]=>True
  |a::l=>noL x a∧Kc x l
end
theorem Om{x:Value}: ∀{cs:List AV},noL x cs→ ∀(q:Nat) (a:AV),cs[q]? =some a→Ib x a
 |[],_,q,a,h=>by simp at h
 |y::l,h,q,a,hq=>by
  simp only[noL]at h
  cases q with
  |zero=>simp at hq;subst hq;exact h.1
  |succ q=>exact Om h.2 q a (by simpa using hq)
theorem DY{x:Value}: ∀{xs:List (List AV)},Kc x xs→ ∀(q:Nat) (a:AV),xs.flatten[q]? =some a→Ib x a
 |[],_,q,a,h=>by simp at h
 |y::l,h,q,a,hq=>by
  simp only[Kc]at h
  rw[List.flatten_cons]at hq
  by_cases aU:q<y.length
  ·rw[List.getElem?_append_left aU]at hq;exact Om h.1 q a hq
  ·rw[List.getElem?_append_right (by omega)]at hq;exact DY h.2 _ a hq
theorem aed{a:AV}{t:ByteArray}(h:Cz E a (.string t))(hn:Ib (.string t) a):False:=by
 cases h with
 |v=>simp only[Ib]at hn;exact hn rfl
 |any=>simp only[Ib]at hn
 |nc=>simp only[Ib]at hn
structure Vg(E E':Env)(bo oo:Nat)(t:ByteArray):Prop where
 aN: ∀b o,E.aN b o→E'.aN b o
 dx: ∀b,E'.dx b=E.dx b
 cell: ∀b o,¬(b=bo∧o=oo)→aR E'.h b o=aR E.h b o
 was:aR E.h bo oo=some (.string t)
theorem Vg.bp{bo oo:Nat}{t:ByteArray}(k:Vg E E' bo oo t){b o:Nat}{a:AV}{x:Value}(hx:aR E.h b o=some x)(h:Cz E a x)(hn:Ib (.string t) a):aR E'.h b o=some x:=by
 rw[k.cell b o fun hh=>by
  obtain⟨rfl,rfl⟩:=hh
  rw[k.was]at hx
  cases hx
  exact aed h hn]
 exact hx
theorem Cz.anL{bo oo:Nat}{t:ByteArray}(k:Vg E E' bo oo t){av:AV}{x:Value}(h:Cz E av x):Ib (.string t) av→Cz E' av x:=by
 induction h with
 |v x=>exact fun _=> .v _
 |nA q A c=>exact fun _=> .nA _ _ _
 |sl q xs z b o c u hp hc hm dV hz hr hi hs hu hq ih=>
  intro hn
  simp only[Ib]at hn
  exact .sl q xs z b o c u hp hc hm dV hz ((k.dx b).trans hr) hi (fun i a ha=>k.aN _ _ (hs i a ha)) (fun i a ha=>k.bp (hu i a ha) (hq i a ha) (DY hn i a ha)) (fun i a ha=>ih i a ha (DY hn i a ha))
 |_=>intro h;simp only[Ib]at h
theorem Cz.slN{r:Nat}{xs ys:List (List AV)}{z b o n c:Nat}(h:Cz E (.sl r xs) (.slice (some ⟨b,o,none⟩) n c))(hx:0<xs.length)(hl:ys.length=xs.length)(hz: ∀l∈xs,l.length=z)(KG: ∀l∈ys,l.length=z)(h0:0<z)(fY: ∀b o,E.aN b o→E'.aN b o)(T7: ∀b,E'.dx b=E.dx b)
  (hi: ∀(q:Nat) (a:AV),ys.flatten[q]? =some a→cm a=true)
  (hq: ∀(q:Nat) (a' a:AV) (x:Value),ys.flatten[q]? =some a'→xs.flatten[q]? =some a→aR E.h b (o+q)=some x→Cz E a x→ ∃y,aR E'.h b (o+q)=some y∧Cz E' a' y):Cz E' (.sl r ys) (.slice (some ⟨b,o,none⟩) n c):=by
 cases h with
 |nA=>simp at hx
 |sl _ _ z' _ _ _ u hp hc hm dV Qg hr hii hs hu hqq=>
  have hf:=aD hz
  have hf':=aD KG
  have get: ∀q a',ys.flatten[q]? =some a'→ ∃a,xs.flatten[q]? =some a:=fun q a' ha=>by
   have:=(List.getElem?_eq_some_iff.1 ha).1
   have aU:q<xs.flatten.length:=by rw[hf,←hl,←hf'];exact this
   exact⟨_,List.getElem?_eq_getElem aU⟩
  have key: ∀q a',ys.flatten[q]? =some a'→ ∃y,aR E'.h b (o+q)=some y∧Cz E' a' y:=fun q a' ha=>by
   obtain⟨a,h1⟩:=get q a' ha
   exact hq q a' a _ ha h1 (hu q a h1) (hqq q a h1)
  have:=Cz.sl (E:=E') r ys z b o c (fun q=>(aR E'.h b (o+q)).getD undef) (by omega) (by omega) hm h0 KG ((T7 b).trans hr) hi (fun q a' ha=>by obtain⟨a,h1⟩:=get q a' ha;exact fY _ _ (hs q a h1))
   (fun q a' ha=>by obtain⟨y,h1,_⟩:=key q a' ha;rw[h1];rfl) (fun q a' ha=>by obtain⟨y,h1,h2⟩:=key q a' ha;rw[h1];exact h2)
  rw[hl]at this
  exact this
end Ab
namespace Ab
open Go
variable{E:Env}{r n0:Nat}
 mutual
def upA(r:Nat):AV→AV
  | .sl _ xs=> .sl r (Dm r xs)
  | .agg cs=> .agg (N1 r cs)
  | .fT cs=> .fT (N1 r cs)
  | .v x=> .v x
  |_=> .any
def N1(r:Nat):List AV→List AV
  |[]=>[]
  |a::l=>upA r a::N1 r l
def Dm(r:Nat):List (List AV)→List (List AV)
  |[]=>[]
  |a::l=>N1 r a::Dm r l
end
 mutual
def ZH:AV→Prop
  | .sl q xs=>1000000≤q∧Vi xs
  | .agg cs=>HiL cs
  | .fT cs=>HiL cs
  |_=>True
def HiL:List AV→Prop
  |[]=>True
  |a::l=>ZH a∧HiL l
def Vi:List (List AV)→Prop
  |[]=>True
  |a::l=>HiL a∧Vi l
end
theorem wN: ∀(l:List AV) (q:Nat),(N1 r l)[q]? =(l[q]?).map (upA r)
 |[],q=>by simp[N1]
 |a::l,q=>by cases q<;>simp[N1,wN l]
theorem CL: ∀(l:List AV),(N1 r l).length=l.length
 |[]=>rfl
 |a::l=>by simp[N1,CL l]
theorem Jp: ∀(l:List (List AV)),(Dm r l).length=l.length
 |[]=>rfl
 |a::l=>by simp[Dm,Jp l]
theorem Jo{z:Nat}: ∀{l:List (List AV)},(∀x∈l,x.length=z)→ ∀x∈Dm r l,x.length=z
 |[],_,x,h=>by simp[Dm]at h
 |a::l,hz,x,h=>by
  simp only[Dm,List.mem_cons]at h
  rcases h with rfl|h
  ·rw[CL];exact hz a (by simp)
  ·exact Jo (fun y hy=>hz y (by simp[hy])) x h
theorem F4: ∀(l:List (List AV)),(Dm r l).flatten=N1 r l.flatten
 |[]=>rfl
 |a::l=>by
  simp only[Dm,List.flatten_cons,F4 l]
  induction a with
  |nil=>simp[N1]
  |cons x a ih=>simp only[N1,List.cons_append];rw[←ih]
theorem C6: ∀{cs:List AV},HiL cs→ ∀(q:Nat) (a:AV),cs[q]? =some a→ZH a
 |[],_,q,a,h=>by simp at h
 |x::l,h,q,a,hq=>by
  simp only[HiL]at h
  cases q with
  |zero=>simp at hq;subst hq;exact h.1
  |succ q=>exact C6 h.2 q a (by simpa using hq)
theorem Lm: ∀{xs:List (List AV)},Vi xs→ ∀(q:Nat) (a:AV),xs.flatten[q]? =some a→ZH a
 |[],_,q,a,h=>by simp at h
 |x::l,h,q,a,hq=>by
  simp only[Vi]at h
  rw[List.flatten_cons]at hq
  by_cases aU:q<x.length
  ·rw[List.getElem?_append_left aU]at hq;exact C6 h.1 q a hq
  ·rw[List.getElem?_append_right (by omega)]at hq;exact Lm h.2 _ a hq
theorem It(r:Nat): ∀a:AV,cm a=true→cm (upA r a)=true
 | .sl _ _,_=>rfl
 | .v _,_=>rfl
 | .any,_=>rfl
 | .gs ..,_=>rfl
 | .aO ..,_=>rfl
 | .ptr ..,_=>rfl
 | .ia ..,_=>rfl
 | .cG ..,_=>rfl
 | .mp _,_=>rfl
 | .pV _,_=>rfl
 | .ar ..,_=>rfl
 | .fn ..,_=>rfl
 | .bm ..,_=>rfl
 | .nc ..,_=>rfl
 | .agg cs,h=>wW fun q b hb=>by
  have hb:(N1 r cs)[q]? =some b:=hb
  rw[wN]at hb
  cases hc:cs[q]? with
  |none=>rw[hc]at hb;cases hb
  |some c=>rw[hc]at hb;cases hb;exact It r c (bj (show bZ cs=true from h) q c hc)
 | .fT cs,h=>wW fun q b hb=>by
  have hb:(N1 r cs)[q]? =some b:=hb
  rw[wN]at hb
  cases hc:cs[q]? with
  |none=>rw[hc]at hb;cases hb
  |some c=>rw[hc]at hb;cases hb;exact It r c (bj (show bZ cs=true from h) q c hc)
 termination_by a=>sizeOf a
 decreasing_by all_goals(simp_wf;have:=List.sizeOf_lt_of_mem (List.mem_of_getElem? hc);omega)
def Env.upE(E:Env)(reg':Nat→Nat):Env:={E with dx:=reg'}
theorem Cz.up{reg':Nat→Nat}(T7: ∀b,n0≤b→reg' b=r)(vV: ∀b o,E.aN b o→1000000≤E.dx b→n0≤b){av:AV}{x:Value}(h:Cz E av x):ZH av→Cz (E.upE reg') (upA r av) x:=by
 induction h with
 |v x=>exact fun _=> .v _
 |nA q A c=>exact fun _=> .nA _ _ _
 |sl q xs z b o c u hp hc hm dV hz hr hi hs hu hq ih=>
  intro hn
  simp only[ZH]at hn
  have hf:=aD hz
  obtain⟨a0,Yb⟩:=qq (l:=xs.flatten) (by rw[hf];exact Nat.mul_pos hp dV)
  have hb:=vV b _ (hs 0 a0 Yb) (by rw[hr];exact hn.1)
  have get: ∀q a,(Dm r xs).flatten[q]? =some a→ ∃a',xs.flatten[q]? =some a'∧a=upA r a':=fun q a ha=>by
   rw[F4,wN]at ha
   cases hx:xs.flatten[q]? with
   |none=>rw[hx]at ha;cases ha
   |some a'=>rw[hx]at ha;cases ha;exact⟨a',hx,rfl⟩
  have hl:=Jp (r:=r) xs
  have:=Cz.sl (E:=E.upE reg') r (Dm r xs) z b o c u (by rw[hl];exact hp) (by rw[hl];exact hc) hm dV (Jo hz) (T7 b hb)
   (fun i a ha=>by obtain⟨a',h1,rfl⟩:=get i a ha;exact It r a' (hi i a' h1)) (fun i a ha=>by obtain⟨a',h1,rfl⟩:=get i a ha;exact hs i a' h1) (fun i a ha=>by obtain⟨a',h1,rfl⟩:=get i a ha;exact hu i a' h1) (fun i a ha=>by obtain⟨a',h1,rfl⟩:=get i a ha;exact ih i a' h1 (Lm hn.2 i a' h1))
  rw[hl]at this
  exact this
 |agg cs ys hl hq ih=>
  intro h
  simp only[ZH]at h
  refine .agg _ ys (by rw[CL];exact hl) fun q a y ha hy=>?_
  rw[wN]at ha
  cases hc:cs[q]? with
  |none=>rw[hc]at ha;cases ha
  |some a0=>rw[hc]at ha;cases ha;exact ih q a0 y hc hy (C6 h q a0 hc)
 |fT cs ys hl hq ih=>
  intro h
  simp only[ZH]at h
  refine .fT _ ys (by rw[CL];exact hl) fun q a y ha hy=>?_
  rw[wN]at ha
  cases hc:cs[q]? with
  |none=>rw[hc]at ha;cases ha
  |some a0=>rw[hc]at ha;cases ha;exact ih q a0 y hc hy (C6 h q a0 hc)
 |_=>exact fun _=> .any _
theorem uE.aiT{P:Program}{f:Nat}{args:List AV}{res:AV}(h: ∀(g:Nat→Option Ob),(∀i,g i=none)→ ∀nx,uE P true f args g nx fun r1 g1 zb=>I0 r1 res∧g1=g∧zb=nx)(Ug:aa0 args)(r7:ZH res)(afc:cm res=true)(g:Nat→Option Ob)(nx:Nat){r:Nat}(hr:r<1000000):
  km P f args g nx (upA r res) g nx:=by
 intro hi E w vs hG hl hv
 have hg:=DV hG
 have ae6: ∀b,E.o9.dx b<1000000:=fun b=>by show(if E.dx b<1000000 then E.dx b else 0)<1000000;split<;>omega
 have hG1:wE E.o9 w g nx:=⟨hG.heap,⟨hG.wf.aN,hG.wf.own,fun b o _ hr=>by have:=ae6 b;omega⟩,hG.nl,hG.gl,hG.own,hG.gk,fun i ob hh=>(by rw[hg i]at hh;cases hh),hG.ng⟩
 refine(h g hg nx hi E.o9 w vs hG1 (fun _ b o _=>ae6 b) hl fun q a y ha hy=>(hv q a y ha hy).o9 fun r hr=>nV (Ug r hr) q a ha).mono ?_
 rintro e w' ⟨r1,g',gG,x,E1,⟨e1,e2,e3⟩,e4,I7,hE,hS,hc,hir,KP⟩
 subst e2;subst e3
 have hx:Cz E1 res x:=wL e1 hc
 have hkr: ∀b,b<E.h.size→E1.dx b=E.o9.dx b:=fun b hb=>(hE.bp b hb (hG.ng b)).2.2.2
 have I3:=hx.up (n0:=E.h.size) (r:=r) (reg':=fun b=>if b<E.h.size then E.dx b else r) (fun b hb=>if_neg (by omega)) (fun b o hs hr=>by
  rcases Nat.lt_or_ge b E.h.size with hb|hb
  ·have:=hkr b hb;have:=ae6 b;omega
  ·exact hb) r7
 refine⟨x,E1.upE fun b=>if b<E.h.size then E.dx b else r,e4,⟨I7.heap,⟨I7.wf.aN,I7.wf.own,fun b o hs Ag=>?_⟩,I7.nl,I7.gl,I7.own,I7.gk,fun i ob hh=>(by rw[hg i]at hh;cases hh),I7.ng⟩,⟨hE.size,fun b o hs=>⟨(hE.aN b o hs).1,(hE.aN b o hs).2.1,by show(if b<E.h.size then E.dx b else r)=E.dx b;rw[if_pos (hG.wf.aN b o hs)]⟩,hE.live,fun b hb hn=>?_⟩,hS,I3,It r res afc,KP⟩
 ·have Ag:1000000≤(if b<E.h.size then E.dx b else r):=Ag
  by_cases hb:b<E.h.size
  ·rw[if_pos hb]at Ag
   have hk:=hE.bp b hb (hG.ng b)
   obtain⟨c,e,h1⟩:=hG.wf.fz b o ((hk.2.2.1 o).1 hs) Ag
   exact⟨c,e,hk.2.1.trans h1⟩
  ·rw[if_neg hb]at Ag;omega
 ·have hk:=hE.bp b hb hn
  exact⟨hk.1,hk.2.1,hk.2.2.1,by show(if b<E.h.size then E.dx b else r)=E.dx b;rw[if_pos hb]⟩
end Ab
namespace Ab
open Go
variable{P:Program}{L:nO}{E0 E:Env}{w0 w w':World}{s:St}{a:Act}{C:dj}
theorem IQ{f:Nat}{fn:Func}{c:Code}(hf:P.funcs[f]? =some fn)(hb:fn.body=some c){vs:List Value}{Q:Ex→St→Prop}{R:Ending→World→Prop}
  (aoW:c.wpIn (WF none) 0 P (B4 E0 w0 Q) {tmps:=vs.toArray++Array.replicate (fn.ntmps - vs.toArray.size) undef,defers:=[]} w)(hex: ∀k s',¬Q (.exit k) s')
  (No: ∀s' E' w' tmps,(Q .normal s'∨Q .ret s')→bq E0 E' w0 w' s' {tmps:=tmps,defers:=[]}→ ∃v,(results fn tmps).run P w'= .ok v w'∧R (.returned v) w'):Calls P f vs.toArray w R:=by
 refine(callsIn_wide (n:=0)).1 (callsIn_of_wp_marks (F:=Fence.wide) hf hb trivial ?_ rfl)
 refine wpIn_mono (F:=Fence.wide) aoW fun e a w' hq=>?_
 cases e with
 |normal=>obtain⟨s',E',h1,h2⟩:=hq;exact sO h2 fun E2 w2 h3=>No s' E2 w2 _ (.inl h1) h3
 |ret=>obtain⟨s',E',h1,h2⟩:=hq;exact sO h2 fun E2 w2 h3=>No s' E2 w2 _ (.inr h1) h3
 |exit k=>obtain⟨s',E',h1,h2⟩:=hq;exact absurd h1 (hex k s')
 |goto l=>exact hq.elim
 |panic c=>exact hq.elim
 |outgrown=>exact hq.elim
theorem uE.ofRaw(ok:Ok P C){f:Nat}{fn:Func}{c:Code}(hf:P.funcs[f]? =some fn)(hb:fn.body=some c){args:List AV}{g:Nat→Option Ob}{nx:Nat}
  (hn:args.length≤fn.ntmps){R:AV→(Nat→Option Ob)→Nat→Prop}(fl:Bool)
  (hk: ∀{E0 E:Env} {w:World} {a:Act},bq E0 E w w (init fn.ntmps args g nx fl) a→c.wpIn (WF none) 0 P (B4 E0 w (post C fn.results.toList R)) a w):uE P fl f args g nx R:=by
 intro hi E w vs hG fB hl hv
 refine IQ hf hb (hk (KB hG fB hl hn hv)) (fun k s' h=>h) fun s' E1 w' tmps hq h=>?_
 have hr:Fe C fn.results.toList s' R:=hq.elim id id
 unfold Fe at hr
 cases h1:sx C.L s' fn.results.toList with
 |none=>rw[h1]at hr;exact hr.elim
 |some vs=>
  rw[h1]at hr
  dsimp only at hr
  cases h2:jw C.ρ (jT vs) s' with
  |none=>rw[h2]at hr;exact hr.elim
  |some s1=>
   rw[h2]at hr
   dsimp only at hr
   cases h3:sx C.L s1 fn.results.toList with
   |none=>rw[h3]at hr;exact hr.elim
   |some LU=>
    rw[h3]at hr
    obtain⟨hrp,lV,hR⟩:=hr
    rw[AX]at hR
    obtain⟨E2,zu,_⟩:=ed h h2
    obtain⟨x,h4,h5⟩:=rS ok zu h3 hrp
    have Uo:Ab.cm (single (LU.map rd))=true:=by
     unfold single
     split
     ·rename_i v hv;rw[hv]at lV;simp only[bZ,Bool.and_true]at lV;exact lV
     ·exact lV
    refine⟨x,h4,_,_,_,x,E2.mask,hR,rfl,zu.mask,?_,zu.same,?_,?_,fun b hb=>?_⟩
    ·refine⟨zu.ext.size,zu.ext.aN,fun k hk=>?_,fun b hb hg=>?_⟩
     ·cases k with
      |s d=>exact absurd hk (hG.nl d)
      |o i=>obtain⟨k1,k2,k3⟩:=zu.ext.live _ hk;exact⟨⟨rfl,k1⟩,k2,k3⟩
     ·obtain⟨k1,k2,k3,k4⟩:=zu.ext.bp b hb hg
      refine⟨?_,k2,k3,k4⟩
      simp only[Env.mask]
      have k1':E2.own b=E.own b:=k1
      rw[k1',hG.own b];rfl
    ·refine(zj E2).cm ?_ ?_
     ·have h6:single (LU.map rd)=rd (single LU):=by
       unfold single
       cases LU with
       |nil=>rfl
       |cons v r=>cases r with
        |nil=>rfl
        |cons v2 r2=>
         simp only[List.map_cons,rd,qd]
         rw[show jX (fun _=>true) (v::v2::r2)=(v::v2::r2).map (qd fun _=>true)from by
          generalize v::v2::r2=l
          induction l with
          |nil=>rfl
          |cons x l ih=>simp[jX,ih]]
         rfl
      rw[h6]
      exact(Cz.ext (Ext.refl (fun _=>False) E2) zu.wf (fun _=>true) (fun _ h=>h.elim) h5).1
     ·exact Uo
    ·exact Uo
    ·have k2:=(zu.ext.bp b (by show b<E.h.size;rw[←hG.heap];exact hb) (hG.ng b)).2.1
     rw[zu.heap,hG.heap];exact k2
end Ab
namespace Ab
open Go
theorem kn{M:Md}(hM:M= .al){r:Nat}{l:List aj}{B C D F K:Prop}(k:K)(b:B:=by first|assumption|exact⟨rfl,by assumption⟩)
  (c:C:=by cbv;(repeat' apply And.intro);all_goals first|trivial|exact AE (by assumption) (by assumption) rfl _|exact H9 (by assumption) (by assumption) _|(refine MV (by assumption) ?_;simp[nh,AF,rY]))
  (d:D:=by cbv;(repeat' apply And.intro);all_goals first|trivial|exact AE (by assumption) (by assumption) rfl _|exact H9 (by assumption) (by assumption) _|(refine MV (by assumption) ?_;simp[nh,AF,rY]))
  (f:F:=by cbv;(repeat' apply And.intro);all_goals first|trivial|exact AE (by assumption) (by assumption) rfl _|exact H9 (by assumption) (by assumption) _|(refine MV (by assumption) ?_;simp[nh,AF,rY])):
  (O7 (.agg [.sl r (M.map (ao M r) l)])∧B∧C∧D∧F)∧K:=⟨⟨UZ hM _,b,c,d,f⟩,k⟩
end Ab
