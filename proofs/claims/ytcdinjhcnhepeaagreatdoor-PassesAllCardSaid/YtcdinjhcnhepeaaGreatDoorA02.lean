/- PassesAll holds of all pairs of cores (no condition): a part of the proof: an abstract interpreter of the code that is proved sound, models of the functions, and laws of these models. -/
import Derived.Test.YtcdinjhcnhepeaaGreatDoorA01
import Derived.DeepKeys3
import Derived.ChangeArms
import Derived.ChangeSame
import Derived.Test.YtcdinjhcnhepeaaGreatDoorCards
import Derived.Test.YtcdinjhcnhepeaaGreatDoorTie
import Derived.ProofKit
import Derived.OpenShut
import Derived.WideKeyArgs
import Derived.Deep.DeepHandedRow
import Derived.Lib.LaidTab
import Derived.KernelRfl
set_option linter.unusedVariables false
set_option linter.unusedSimpArgs false
set_option linter.unusedSectionVars false
namespace Ab
open Go
variable{P:Program}{L:pN}{E:Env}{w0 w w':World}{r:Nat}{a:Act}{n:Nat}{t:List (Nat×Value)}
def nO(n:Nat)(a:Act)(t:List (Nat×Value)):Prop:=a.tmps.size=n∧a.defers=[]∧ ∀d x,look d t=some x→a.tmps.getD d undef=x
theorem nO.put(h:nO n a t){d:Nat}(hd:d<n)(x:Value):nO n (a.put (some d) x) (dt d x t):=by
 refine⟨by simp[Act.put,h.1],h.2.1,fun e y he=>?_⟩;rw[xn a d e x (by rw[h.1];exact hd)];rw[aJ]at he;by_cases Ul:e=d
 ·subst Ul;rw[if_pos rfl]at he;cases he;rw[if_pos rfl]
 ·rw[if_neg (Ne.symm Ul)]at he;rw[if_neg Ul];exact h.2.2 e y he
theorem nO.ev(h:nO n a t){d:Nat}{x:Value}(hd:look d t=some x):a.eval (.tmp d)=x:=h.2.2 d x hd
theorem nO.sub(h:nO n a t){t':List (Nat×Value)}(hs: ∀d x,look d t'=some x→look d t=some x):nO n a t':=⟨h.1,h.2.1,fun d x hd=>h.2.2 d x (hs d x hd)⟩
def NE(R:Act→World→Prop):Exit→Act→World→Prop:=fun e a w=>e= .normal∧R a w
theorem Sv{x y:Code}{R1 R2:Act→World→Prop}(h:x.wpIn (WF none) 0 P (NE R1) a w)(k: ∀a w,R1 a w→y.wpIn (WF none) 0 P (NE R2) a w):(Code.seq x y).wpIn (WF none) 0 P (NE R2) a w:=
 wpIn_seq (wpIn_mono h fun e a' w' hq=>by
  obtain⟨rfl,hR⟩:=hq;exact k a' w' hR)
theorem aaE{id:Nat}{ops:Array Oper}{R:Act→World→Prop}(h:wpListIn (WF none) 0 P ops (NE R) ops.toList a w):(Code.region id ops false).wpIn (WF none) 0 P (NE R) a w:=wpIn_region_list h
theorem av4{id:Nat}{c:Code}{R:Act→World→Prop}(h:c.wpIn (WF none) 0 P (NE R) a w):(Code.block id c).wpIn (WF none) 0 P (NE R) a w:=
 wpIn_block (wpIn_mono h fun e a' w' hq=>by obtain⟨rfl,hR⟩:=hq;exact⟨rfl,hR⟩)
theorem zm{ops:Array Oper}{o:Oper}{rest:List Oper}{Q:Exit→Act→World→Prop}{x:Value}(hg:o.guard=none)(hr:(execOp a.eval o).run P w= .ok (.value x) w')(h:wpListIn (WF none) 0 P ops Q rest (a.put o.dst x) w'):
  wpListIn (WF none) 0 P ops Q (o::rest) a w:=by
 unfold wpListIn;rw[if_pos (by simp[Region.wanted,hg])];have:mS P o a w (fun a w=>wpListIn (WF none) 0 P ops Q rest a w) Q:=by
  unfold mS;rw[hr];exact h
 exact this.wpIn none
theorem agk{ops:Array Oper}{o:Oper}{rest:List Oper}{Q:Exit→Act→World→Prop}(hg:o.guard=none)(hr:(execOp a.eval o).run P w= .ok .skip w')(h:wpListIn (WF none) 0 P ops Q rest (a.put o.dst undef) w'):
  wpListIn (WF none) 0 P ops Q (o::rest) a w:=by
 unfold wpListIn;rw[if_pos (by simp[Region.wanted,hg])];have:mS P o a w (fun a w=>wpListIn (WF none) 0 P ops Q rest a w) Q:=by
  unfold mS;rw[hr];exact h
 exact this.wpIn none
section ops
variable{ops:Array Oper}{o:Oper}{rest:List Oper}{Q:Exit→Act→World→Prop}{d:Nat}
theorem Q2(hL:bG P L)(hf:nO n a t){T x f b q off:Nat}(ho:o.op= .fieldAddr T (.tmp x) f)(hg:o.guard=none)(hd:o.dst=some d)(bc:tZ d n=true)(hx:look x t=some (.pointer (some ⟨b,q,none⟩)))(xT:iJ L T f=some off)
  (h: ∀a',nO n a' (dt d (.pointer (some ⟨b,q+off,none⟩)) t)→wpListIn (WF none) 0 P ops Q rest a' w):wpListIn (WF none) 0 P ops Q (o::rest) a w:=by
 refine zm hg (x:= .pointer (some ⟨b,q+off,none⟩)) (w':=w) ?_ ?_
 ·simp only[execOp,ho,hf.ev hx];simp[m0 hL xT]
 ·rw[hd];exact h _ (hf.put (by simpa using bc) _)
theorem Vd(hf:nO n a t){x:Operand}(ho:o.op= .move x)(hg:o.guard=none)(hd:o.dst=some d)(bc:tZ d n=true){v:Value}(hx:a.eval x=v)
  (h: ∀a',nO n a' (dt d v t)→wpListIn (WF none) 0 P ops Q rest a' w):wpListIn (WF none) 0 P ops Q (o::rest) a w:=by
 refine zm hg (x:=v) (w':=w) ?_ ?_
 ·simp[execOp,ho,hx]
 ·rw[hd];exact h _ (hf.put (by simpa using bc) _)
theorem adP(hf:nO n a t){op:BinOp}{T:Nat}{x y:Operand}{u v z:Value}{ty:Nat}(ho:o.op= .binOp op T x y ty)(hg:o.guard=none)(hd:o.dst=some d)(bc:tZ d n=true)(hx:a.eval x=u)(hy:a.eval y=v)(hb:bin ak op u v=some z)
  (h: ∀a',nO n a' (dt d z t)→wpListIn (WF none) 0 P ops Q rest a' w):wpListIn (WF none) 0 P ops Q (o::rest) a w:=by
 refine zm hg (x:=z) (w':=w) ?_ ?_
 ·have hg: ∀w,(eqGuard op T x y (a.eval x) (a.eval y)).run P w= .ok () w:=by
   intro w;rw[hx,hy];unfold bin at hb
   split at hb<;>first|(simp[eqGuard,go_sem];done)|(simp at hb)
  simp only[hx,hy]at hg;simp only[execOp,ho,hx,hy];simp[Sem.run_bind,hg,I3 hb,Result.andThen]
 ·rw[hd];exact h _ (hf.put (by simpa using bc) _)
theorem al5(hL:bG P L)(hf:nO n a t){c:Call}{x T e:Nat}{ti:TI}{A:Option Addr}{m k:Nat}(ho:o.op= .call c)(hc:c.callee= .builtin .len)(ha:c.args= #[.tmp x])(hT:c.argTypes= #[T])(hg:o.guard=none)(hd:o.dst=some d)(bc:tZ d n=true)
  (ht:L T=some ti)(hk:ti.k= .slice e)(hx:look x t=some (.slice A m k))
  (h: ∀a',nO n a' (dt d (.int .i64 m) t)→wpListIn (WF none) 0 P ops Q rest a' w):wpListIn (WF none) 0 P ops Q (o::rest) a w:=by
 obtain⟨i,d',z,h1,h2,h3,h4,h5,h6,h7⟩:=(hL.ok T ti ht).ex;rw[hk]at h7;dsimp only at h7;subst h7;refine zm hg (x:= .int .i64 m) (w':=w) ?_ ?_
 ·have e1:(Builtin.len_ #[T] o.type #[.slice A m k]).run P w= .ok (.int .i64 m) w:=by simp[Builtin.len_,go_sem,underlying,h6,goInt]
  simp[execOp,ho,resolve,hc,invoke,builtin,ha,hT,Sem.run_bind,hf.ev hx,e1,Result.andThen]
 ·rw[hd];exact h _ (hf.put (by simpa using bc) _)
theorem aaI(hL:bG P L)(hf:nO n a t){T x y e b q m c:Nat}{i:Nat}{ti:TI}(ho:o.op= .indexAddr T (.tmp x) (.tmp y))(hg:o.guard=none)(hd:o.dst=some d)(bc:tZ d n=true)(ht:elemOf L T=some (e,ti))
  (hx:look x t=some (.slice (some ⟨b,q,none⟩) m c))(hy:look y t=some (.int .i64 i))(hi:i<m)
  (h: ∀a',nO n a' (dt d (.pointer (some ⟨b,q+i*ti.size,none⟩)) t)→wpListIn (WF none) 0 P ops Q rest a' w):wpListIn (WF none) 0 P ops Q (o::rest) a w:=by
 refine zm hg (x:= .pointer (some ⟨b,q+i*ti.size,none⟩)) (w':=w) ?_ ?_
 ·simp only[execOp,ho,hf.ev hx,hf.ev hy];have:=km (P:=P) hL ht .i64 i b q m c (by omega) (by omega) w
  simp only[Int.toNat_natCast]at this;simp[this]
 ·rw[hd];exact h _ (hf.put (by simpa using bc) _)
theorem aaH(hL:bG P L)(hf:nO n a t){T x b q:Nat}{ti:TI}{ys:List Value}(ho:o.op= .load T (.tmp x))(hg:o.guard=none)(hd:o.dst=some d)(bc:tZ d n=true)(ht:L T=some ti)(vh:ti.agg=true)(hl:ys.length=ti.size)
  (hx:look x t=some (.pointer (some ⟨b,q,none⟩)))(hy: ∀(j:Nat) (y:Value),ys[j]? =some y→aW w.heap b (q+j)=some y)
  (h: ∀a',nO n a' (dt d (.agg ys.toArray) t)→wpListIn (WF none) 0 P ops Q rest a' w):wpListIn (WF none) 0 P ops Q (o::rest) a w:=by
 have hp:part ti (ys.map AV.v) 0=some (.agg (ys.map .v)):=by
  unfold part;have h1:oZ (0+ti.size) (ys.map AV.v).length=true:=by rw[Af];simp[hl]
  rw[h1,vh];simp only[az,cut,List.drop_zero];rw[List.take_of_length_le (by simp[hl])]
 obtain⟨y,g1,g2⟩:=kj (P:=P) (E:=⟨#[],fun _ _=>False,fun _=>0,fun _=>0,fun _=>False,fun _=>(0,0),fun _=> .WR,[]⟩) (w:=w) hL ht (b:=b) (o:=q) hp (fun j a' ha=>by
  rw[List.getElem?_map]at ha;cases hj:ys[j]? with
  |none=>rw[hj]at ha;cases ha
  |some y=>rw[hj]at ha;cases ha;exact⟨y,hy j y hj,.v _⟩)
 have Ug:y= .agg ys.toArray:=by
  cases g2 with
  |agg _ zs tG hq=>
   congr 1;congr 1;apply List.ext_getElem
   ·simpa using tG
   ·intro j h1 h2;have:=hq j (.v ys[j]) zs[j] (by simp[h2]) (by simp[h1])
    exact bX this
 subst Ug;refine zm hg (x:= .agg ys.toArray) (w':=w) ?_ ?_
 ·simp only[execOp,ho,hf.ev hx];simp[show(Instr.loadAt T (.pointer (some ⟨b,q,none⟩))).run P w= .ok (.agg ys.toArray) w from by simpa using g1]
 ·rw[hd];exact h _ (hf.put (by simpa using bc) _)
theorem Q1(hL:bG P L)(hf:nO n a t){T x b q:Nat}{ti:TI}{y:Value}(ho:o.op= .load T (.tmp x))(hg:o.guard=none)(hd:o.dst=some d)(bc:tZ d n=true)(ht:L T=some ti)(vh:ti.agg=false)(hl:ti.size=1)
  (hx:look x t=some (.pointer (some ⟨b,q,none⟩)))(hy:aW w.heap b q=some y)
  (h: ∀a',nO n a' (dt d y t)→wpListIn (WF none) 0 P ops Q rest a' w):wpListIn (WF none) 0 P ops Q (o::rest) a w:=by
 have hp:part ti [AV.v y] 0=some (.v y):=by
  unfold part;rw[show oZ (0+ti.size) [AV.v y].length=true by rw[Af];simp[hl],vh];rfl
 obtain⟨y',g1,g2⟩:=kj (P:=P) (E:=⟨#[],fun _ _=>False,fun _=>0,fun _=>0,fun _=>False,fun _=>(0,0),fun _=> .WR,[]⟩) (w:=w) hL ht (b:=b) (o:=q) hp (fun j a' ha=>by
  cases j with
  |zero=>cases ha;exact⟨y,hy,.v _⟩
  |succ j=>simp at ha)
 have:=bX g2
 subst this;refine zm hg (x:=y') (w':=w) ?_ ?_
 ·simp only[execOp,ho,hf.ev hx];simp[show(Instr.loadAt T (.pointer (some ⟨b,q,none⟩))).run P w= .ok y' w from by simpa using g1]
 ·rw[hd];exact h _ (hf.put (by simpa using bc) _)
theorem aaK(hL:bG P L)(hf:nO n a t){T:Nat}{ti:TI}(ho:o.op= .alloc T)(hg:o.guard=none)(hd:o.dst=some d)(bc:tZ d n=true)(ht:L T=some ti)
  (h: ∀a',nO n a' (dt d (.pointer (some ⟨w.heap.size,0,none⟩)) t)→wpListIn (WF none) 0 P ops Q rest a' (w.alloc (.cells ti.zero.toArray T))):wpListIn (WF none) 0 P ops Q (o::rest) a w:=by
 obtain⟨i,d',z,h1,h2,h3,h4,h5,h6,h7⟩:=(hL.ok T ti ht).ex;have hz:z.cells=ti.zero.toArray:=by rw[←h5]
 refine zm hg (x:= .pointer (some ⟨w.heap.size,0,none⟩)) (w':=w.alloc (.cells ti.zero.toArray T)) ?_ ?_
 ·simp only[execOp,ho];simp[Ir h1 h4,hz]
 ·rw[hd];exact h _ (hf.put (by simpa using bc) _)
theorem al6(hf:nO n a t){T x:Nat}{v:Value}(ho:o.op= .box T (.tmp x))(hg:o.guard=none)(hd:o.dst=some d)(bc:tZ d n=true)(hx:look x t=some v)
  (h: ∀a',nO n a' (dt d (.pointer (some ⟨w.heap.size,0,none⟩)) t)→wpListIn (WF none) 0 P ops Q rest a' (w.alloc (.cells v.cells T))):wpListIn (WF none) 0 P ops Q (o::rest) a w:=by
 refine zm hg (x:= .pointer (some ⟨w.heap.size,0,none⟩)) (w':=w.alloc (.cells v.cells T)) ?_ ?_
 ·simp only[execOp,ho,Instr.box,newVar,hf.ev hx];simp[iT]
 ·rw[hd];exact h _ (hf.put (by simpa using bc) _)
theorem Vc(hL:bG P L)(hf:nO n a t){T x y b e:Nat}{ti:TI}{ys:List Value}{c:Array Value}(ho:o.op= .store T (.tmp x) (.tmp y))(hg:o.guard=none)(hd:o.dst=none)(ht:L T=some ti)(hl:ys.length=ti.size)(hv: ∀x∈ys,tT x=true)
  (hx:look x t=some (.pointer (some ⟨b,0,none⟩)))(hy:look y t=some (.agg ys.toArray))(hb:w.heap[b]? =some (.cells c e (0,0)))(hc:c.size=ti.size)
  (h: ∀w',w'.heap=w.heap.setIfInBounds b (.cells ys.toArray e (0,0))→jQ w w'→wpListIn (WF none) 0 P ops Q rest a w'):wpListIn (WF none) 0 P ops Q (o::rest) a w:=by
 have jY:(Value.agg ys.toArray).cells=ys.toArray:=by simp[Value.cells]
 obtain⟨w',g1,g2,g3⟩:=run_store (P:=P) hL ht (off:=0) (v:= .agg ys.toArray) hb (by rw[jY];simpa using hl) (by omega) (by rw[jY];exact hv);rw[jY]at g2;obtain⟨f1,f2⟩:=rN 0 ys 0 c (by omega);have hF:(ys.zipIdx.foldl (fun cs (x,j)=>cs.setIfInBounds (0+j) x) c)=ys.toArray:=by
  apply Array.ext_getElem?;intro q;rw[f2 q];by_cases hq:q<ys.length
  ·rw[if_pos (by omega)];simp
  ·rw[if_neg (by omega),Array.getElem?_eq_none (by omega),Array.getElem?_eq_none (by simpa using hq)]
 refine agk hg (w':=w') ?_ ?_
 ·simp only[execOp,ho,hf.ev hx,hf.ev hy];simp[g1]
 ·rw[hd];exact h w' (by rw[g2];simp only[];rw[hF]) g3
end ops
theorem rM{d:Nat}{x:Value}(h:nO n a (dt d x t))(hd:look d t=none):nO n a t:=
 h.sub fun e y he=>by
  have:d≠e:=fun hh=>by subst hh;rw[hd]at he;cases he
  rw[aJ,if_neg this];exact he
theorem am8{g1 g2 k k1 ti tn tc tx m:Nat}{o1 o2 o3:Oper}{body:Code}{bH:List (Nat×Value)}{J:World→Prop}
  (h1:o1.op= .binOp .lss 3 (.tmp ti) (.tmp tn) 3∧o1.guard=none∧o1.dst=some tc)(h2:o2.op= .binOp .add 3 (.tmp ti) (.const (.int .i64 1)) 3∧o2.guard=none∧o2.dst=some tx)(h3:o3.op= .move (.tmp tx)∧o3.guard=none∧o3.dst=some ti)
  (bc:(tZ ti n&&(tZ tc n&&tZ tx n))=true)(hn:look tn bH=some (.int .i64 m))(hm:m≤maxLen)(dj:look ti bH=none∧look tc bH=none∧look tx bH=none∧ti≠tc∧ti≠tx∧ti≠tn)
  (h0:nO n a (dt ti (.int .i64 0) bH))(hJ:J w)
  (hb: ∀i a w,i<m→nO n a (dt ti (.int .i64 i) bH)→J w→body.wpIn (WF none) 0 P (NE fun a' w'=>nO n a' (dt ti (.int .i64 i) bH)∧J w') a w):
  (Code.block k (Code.loop ((Code.region g1 #[o1] false).seq ((Code.cond (.tmp tc) .skip (.exit k)).seq ((Code.block k1 body).seq (Code.region g2 #[o2,o3] false)))))).wpIn (WF none) 0 P (NE fun a' w'=>nO n a' bH∧J w') a w:=by
 simp only[Bool.and_eq_true]at bc;refine wpIn_block ?_;refine wP (fun q a w=> ∃i,i≤m∧q=m - i∧nO n a (dt ti (.int .i64 i) bH)∧J w) m ⟨0,Nat.zero_le _,rfl,h0,hJ⟩ ?_
 rintro q a w ⟨i,hi,rfl,hf,hJ⟩
 have uX:look ti (dt ti (Value.int .i64 i) bH)=some (.int .i64 i):=bZ _ _ _
 have Rv:look tn (dt ti (Value.int .i64 i) bH)=some (.int .i64 m):=by rw[aJ,if_neg dj.2.2.2.2.2];exact hn
 refine wpIn_seq (wpIn_region_list ?_);refine adP (z:= .bool (decide ((i:Int)<m))) hf h1.1 h1.2.1 h1.2.2 bc.2.1 (hf.ev uX) (hf.ev Rv) (by simp[bin,ak]) fun a1 f1=>?_;show Code.wpIn _ _ _ _ _ _ _;refine wpIn_seq (wpIn_cond (t:=decide ((i:Int)<m)) (f1.ev (bZ _ _ _)) ?_);by_cases nw:i<m
 ·rw[if_pos (by simpa using nw)];refine wpIn_skip ?_;show Code.wpIn _ _ _ _ _ _ _;have f2:nO n a1 (dt ti (.int .i64 i) bH):=rM f1 (by rw[aJ,if_neg dj.2.2.2.1];exact dj.2.1)
  refine wpIn_seq (wpIn_mono (av4 (hb i a1 w nw f2 hJ)) fun e a3 w3 hq=>?_);obtain⟨rfl,f3,J3⟩:=hq;show Code.wpIn _ _ _ _ _ _ _;refine wpIn_region_list ?_;refine adP (z:= .int .i64 ((i+1:Nat):Int)) f3 h2.1 h2.2.1 h2.2.2 bc.2.2 (f3.ev uX) rfl ?_ fun a4 f4=>?_
  ·have hM:maxLen=9223372036854775807:=by decide
   have h4:IntKind.wrap .i64 ((i:Int)+1)=((i+1:Nat):Int):=by
    unfold IntKind.wrap;simp only[IntKind.bits,IntKind.signed,Bool.true_and];rw[if_neg (by simp;omega)];omega
   show(some (Value.int .i64 (IntKind.wrap .i64 ((i:Int)+1))):Option Value)=_;rw[h4]
  refine Vd f4 h3.1 h3.2.1 h3.2.2 bc.1 (f4.ev (bZ _ _ _)) fun a5 f5=>?_;refine wpListIn_nil ?_;show∃n',n'<m - i∧_;refine⟨m - (i+1),by omega,i+1,by omega,rfl,f5.sub fun e y he=>?_,J3⟩;rw[aJ]at he ⊢;by_cases hte:ti=e
  ·rw[if_pos hte]at he ⊢;exact he
  ·rw[if_neg hte]at he ⊢;have:tx≠e:=fun hh=>by subst hh;rw[dj.2.2.1]at he;cases he
   rw[aJ,if_neg this,aJ,if_neg hte];exact he
 ·rw[if_neg (by simpa using nw)];refine wpIn_exit ?_;show Exit.inBlock k _ (.exit k) _ _;simp only[Exit.inBlock,if_true];exact⟨rfl,rM (rM f1 (by rw[aJ,if_neg dj.2.2.2.1];exact dj.2.1)) dj.1,hJ⟩
end Ab
namespace Ab
open Go
variable{P:Program}{L:pN}{E:Env}{w0 w w':World}{r:Nat}{a:Act}{n:Nat}{t bH:List (Nat×Value)}{row:List (Value→Prop)}
structure zC(row:List (Value→Prop)):Prop where
 zk: ∀S∈row,∀u,S u→S (zk u)
 one: ∀S∈row,∀u,S u→tT u=true
 pos:0<row.length
theorem aaJ(hL:bG P L)(h:gX E r w0 w)(hw:Wf E)(hr:1000000≤r)(hf:nO n a t){ops:Array Oper}{o:Oper}{rest:List Oper}{Q:Exit→Act→World→Prop}{c:Call}{x T e:Nat}{ti te:TI}{v:Value}(ho:o.op= .call c)(hc:c.callee= .builtin .clear)(ha:c.args= #[.tmp x])(hT:c.argTypes= #[T])(hg:o.guard=none)(hd:o.dst=none)
  (hx:look x t=some v)(hv:qF E r row v)(hR:zC row)(ht:L T=some ti)(hk:ti.k= .slice e)(he:L e=some te)(hl:te.zero.length=row.length)(hz: ∀(q:Nat) (S:Value→Prop) (z u:Value),row[q]? =some S→te.zero[q]? =some z→S u→zk u=z)
  (k: ∀w',gX E r w0 w'→Lk E w w'→wpListIn (WF none) 0 P ops Q rest a w'):wpListIn (WF none) 0 P ops Q (o::rest) a w:=by
 obtain⟨w',g1,g2,g3⟩:=h.clear (P:=P) hL hw hr hv (ty:=o.type) ht hk he hR.pos hl hz;refine zm hg (x:= .tuple #[]) (w':=w') ?_ ?_
 ·simp[execOp,ho,resolve,hc,invoke,builtin,ha,hT,Sem.run_bind,hf.ev hx,g1,Result.andThen]
 ·rw[hd];exact k w' g2 g3
theorem aoP(hL:bG P L)(hw:Wf E){id T e ts ti tp tv tb:Nat}{o1 o2 o3 o4:Oper}{A:Option Addr}{m c i:Nat}{te:TI}{R:Act→World→Prop}
  (h1:o1.op= .indexAddr T (.tmp ts) (.tmp ti)∧o1.guard=none∧o1.dst=some tp)(h2:o2.op= .load e (.tmp tp)∧o2.guard=none∧o2.dst=some tv)(h3:o3.op= .alloc e∧o3.guard=none∧o3.dst=some tb)(h4:o4.op= .store e (.tmp tb) (.tmp tv)∧o4.guard=none∧o4.dst=none)
  (bc:(tZ tp n&&(tZ tv n&&tZ tb n))=true)(dj:tp≠tv∧tv≠tb∧look tp bH=none∧look tv bH=none∧tp≠tb)(ux:elemOf L T=some (e,te))(he:L e=some te)(vh:te.agg=true)(ef:te.size=row.length)
  (hs:look ts bH=some (.slice A m c))(hi:look ti bH=some (.int .i64 i))(nw:i<m)(hv:qF E r row (.slice A m c))(hR:zC row)(hf:nO n a bH)(h:gX E r w0 w)
  (k: ∀a' w' B (ys:List Value),E.h.size≤B→w'.heap[B]? =some (.cells ys.toArray e (0,0))→ys.length=row.length→(∀(q:Nat) (S:Value→Prop) (y:Value),row[q]? =some S→ys[q]? =some y→S y)→
   nO n a' (dt tb (.pointer (some ⟨B,0,none⟩)) bH)→gX E r w0 w'→Lk E w w'→R a' w'):
  (Code.region id #[o1,o2,o3,o4] false).wpIn (WF none) 0 P (NE R) a w:=by
 simp only[Bool.and_eq_true]at bc;obtain⟨b,o,rfl,ys,y1,y2,y3⟩:=h.row hw hv hR.zk nw;have gC: ∀{d:Nat} {x y:Value} {t:List (Nat×Value)} {e:Nat},e≠d→look d t=some y→look d (dt e x t)=some y:=fun hh hy=>by rw[aJ,if_neg hh];exact hy
 have nek: ∀{d e:Nat} {x:Value},look e bH=none→look d bH=some x→e≠d:=fun h1 h2 hh=>by subst hh;rw[h1]at h2;cases h2
 refine aaE ?_;refine aaI hL hf h1.1 h1.2.1 h1.2.2 bc.1 ux hs hi nw fun a1 f1=>?_;rw[ef]at f1;refine aaH hL f1 (ys:=ys) h2.1 h2.2.1 h2.2.2 bc.2.1 he vh (by rw[ef];exact y1) (bZ _ _ _) (fun j y hj=>y2 j y hj) fun a2 f2=>?_;refine aaK hL f2 h3.1 h3.2.1 h3.2.2 bc.2.2 he fun a3 f3=>?_;have Ai: ∀x∈ys,tT x=true:=fun x hx=>by
  obtain⟨q,hq⟩:=List.getElem?_of_mem hx;have xd:q<row.length:=by rw[←y1];exact(bq.1 hq).1
  exact hR.one _ (List.getElem_mem xd) _ (y3 q _ x (eH xd) hq)
 refine Vc (ys:=ys) hL f3 h4.1 h4.2.1 h4.2.2 he (by rw[ef];exact y1) Ai (bZ _ _ _) (gC (Ne.symm dj.2.1) (bZ _ _ _)) (I8 _) (by rw[List.size_toArray];exact(hL.ok e te he).N9) fun w1 g1 g2=>?_;have P2:w.heap.size<(w.alloc (.cells te.zero.toArray e)).heap.size:=by show _<(w.heap.push _).size;rw[Array.size_push];omega
 refine wpListIn_nil ⟨rfl,k _ _ w.heap.size ys h.size ?_ y1 y3 ?_ ((h.alloc _).asI h.size g1 g2) ?_⟩
 ·rw[g1];rw[Array.getElem?_setIfInBounds_self_of_lt P2]
 ·refine f3.sub fun d x hd=>?_;rw[aJ]at hd ⊢;by_cases hbd:tb=d
  ·rw[if_pos hbd]at hd ⊢;exact hd
  ·rw[if_neg hbd]at hd ⊢;rw[aJ,if_neg (nek dj.2.2.2.1 hd),aJ,if_neg (nek dj.2.2.1 hd)];exact hd
 ·refine⟨by rw[g1,Array.size_setIfInBounds];omega,fun b' fP CL=>?_⟩;rw[g1,Array.getElem?_setIfInBounds_ne (by omega)];exact(Lk.alloc (.cells te.zero.toArray e)).2 b' fP CL
theorem TH(hL:bG P L){id T f tb tp tv tn ti B off e T2 e2:Nat}{Oy:TI}{o1 o2 o3 o4:Oper}{cl:Call}{ys:List Value}{A:Option Addr}{m c:Nat}{R:Act→World→Prop}
  (h1:o1.op= .fieldAddr T (.tmp tb) f∧o1.guard=none∧o1.dst=some tp)(h2:o2.op= .load T2 (.tmp tp)∧o2.guard=none∧o2.dst=some tv)(h3:o3.op= .call cl∧o3.guard=none∧o3.dst=some tn)(jY:cl.callee= .builtin .len∧cl.args= #[.tmp tv]∧cl.argTypes= #[T2])
  (h4:o4.op= .move (.const (.int .i64 0))∧o4.guard=none∧o4.dst=some ti)
  (bc:(tZ tp n&&(tZ tv n&&(tZ tn n&&tZ ti n)))=true)(dj:tp≠tv∧tp≠tn∧tp≠ti∧tv≠tn∧tv≠ti∧tn≠ti∧look tp bH=none∧look tv bH=none∧look tn bH=none)(xT:iJ L T f=some off)(ht2:L T2=some Oy)(Ej:Oy.k= .slice e2)(KS:Oy.size=1)
  (hb:look tb bH=some (.pointer (some ⟨B,0,none⟩)))(hw:w.heap[B]? =some (.cells ys.toArray e (0,0)))(hy:ys[off]? =some (.slice A m c))(hf:nO n a bH)
  (k: ∀a',nO n a' (dt ti (.int .i64 0) (dt tn (.int .i64 m) (dt tv (.slice A m c) bH)))→R a' w):
  (Code.region id #[o1,o2,o3,o4] false).wpIn (WF none) 0 P (NE R) a w:=by
 simp only[Bool.and_eq_true]at bc;refine aaE ?_;refine Q2 hL hf h1.1 h1.2.1 h1.2.2 bc.1 hb xT fun a1 f1=>?_;rw[Nat.zero_add]at f1;refine Q1 hL f1 (y:= .slice A m c) h2.1 h2.2.1 h2.2.2 bc.2.1 ht2 (by unfold TI.agg;rw[Ej]) KS (bZ _ _ _) (by unfold aW;rw[hw];simpa using hy) fun a2 f2=>?_;refine al5 hL f2 h3.1 jY.1 jY.2.1 jY.2.2 h3.2.1 h3.2.2 bc.2.2.1 ht2 Ej (bZ _ _ _) fun a3 f3=>?_;refine Vd f3 h4.1 h4.2.1 h4.2.2 bc.2.2.2 (v:= .int .i64 0) rfl fun a4 f4=>?_;refine wpListIn_nil ⟨rfl,k a4 (f4.sub fun d x hd=>?_)⟩;rw[aJ]at hd ⊢;by_cases e1:ti=d
 ·rw[if_pos e1]at hd ⊢;exact hd
 ·rw[if_neg e1]at hd ⊢;rw[aJ]at hd ⊢;by_cases e2:tn=d
  ·rw[if_pos e2]at hd ⊢;exact hd
  ·rw[if_neg e2]at hd ⊢;rw[aJ]at hd ⊢;by_cases e3:tv=d
   ·rw[if_pos e3]at hd ⊢;exact hd
   ·rw[if_neg e3]at hd ⊢;rw[aJ,if_neg (fun hh=>by subst hh;rw[dj.2.2.2.2.2.2.1]at hd;cases hd)];exact hd
theorem Nw(hL:bG P L)(hW:Wf E)(hr:1000000≤r){id T f tb tp tv B off e T2 e2:Nat}{Oy te:TI}{o1 o2 o3:Oper}{cl:Call}{ys:List Value}{v:Value}{R:Act→World→Prop}
  (h1:o1.op= .fieldAddr T (.tmp tb) f∧o1.guard=none∧o1.dst=some tp)(h2:o2.op= .load T2 (.tmp tp)∧o2.guard=none∧o2.dst=some tv)(h3:o3.op= .call cl∧o3.guard=none∧o3.dst=none)(jY:cl.callee= .builtin .clear∧cl.args= #[.tmp tv]∧cl.argTypes= #[T2])
  (bc:(tZ tp n&&tZ tv n)=true)(dj:look tp bH=none∧look tv bH=none)(xT:iJ L T f=some off)(ht2:L T2=some Oy)(Ej:Oy.k= .slice e2)(KS:Oy.size=1)(he2:L e2=some te)
  (hl:te.zero.length=row.length)(hz: ∀(q:Nat) (S:Value→Prop) (z u:Value),row[q]? =some S→te.zero[q]? =some z→S u→zk u=z)
  (hb:look tb bH=some (.pointer (some ⟨B,0,none⟩)))(hw:w.heap[B]? =some (.cells ys.toArray e (0,0)))(hy:ys[off]? =some v)(hv:qF E r row v)(hR:zC row)(hf:nO n a bH)(h:gX E r w0 w)
  (k: ∀a' w',nO n a' bH→gX E r w0 w'→Lk E w w'→R a' w'):
  (Code.region id #[o1,o2,o3] false).wpIn (WF none) 0 P (NE R) a w:=by
 simp only[Bool.and_eq_true]at bc;refine aaE ?_;refine Q2 hL hf h1.1 h1.2.1 h1.2.2 bc.1 hb xT fun a1 f1=>?_;rw[Nat.zero_add]at f1;refine Q1 hL f1 (y:=v) h2.1 h2.2.1 h2.2.2 bc.2 ht2 (by unfold TI.agg;rw[Ej]) KS (bZ _ _ _) (by unfold aW;rw[hw];simpa using hy) fun a2 f2=>?_;refine aaJ hL h hW hr f2 h3.1 jY.1 jY.2.1 jY.2.2 h3.2.1 h3.2.2 (bZ _ _ _) hv hR ht2 Ej he2 hl hz fun w' g1 g2=>?_;refine wpListIn_nil ⟨rfl,k a2 w' (f2.sub fun d x hd=>?_) g1 g2⟩;rw[aJ,if_neg (fun hh=>by subst hh;rw[dj.2]at hd;cases hd),aJ,if_neg (fun hh=>by subst hh;rw[dj.1]at hd;cases hd)];exact hd
def isI(v:Value):Prop:= ∃m,v= .int .i64 m
def isS(v:Value):Prop:= ∃s,v= .string s
def NO:List (Value→Prop):=[isI]
def Kq(E:Env)(r:Nat):List (Value→Prop):=[isI,isS,isI,qF E r NO]
def HZ(E:Env)(r:Nat):List (Value→Prop):=[isS,isI,qF E r (Kq E r),isI]
def C6(E:Env)(r:Nat):List (Value→Prop):=[isS,isI,qF E r (HZ E r)]
theorem Oa{u:Value}(h:isI u):zk u= .int .i64 0:=by obtain⟨m,rfl⟩:=h;rfl
theorem Zi{u:Value}(h:isS u):zk u= .string ⟨#[]⟩:=by obtain⟨m,rfl⟩:=h;rfl
def RS(S:Value→Prop):Prop:=(∀u,S u→S (zk u))∧ ∀u,S u→tT u=true
theorem Le:RS isI:=⟨fun u h=>⟨0,Oa h⟩,fun u h=>by obtain⟨m,rfl⟩:=h;rfl⟩
theorem Qm:RS isS:=⟨fun u h=>⟨_,Zi h⟩,fun u h=>by obtain⟨m,rfl⟩:=h;rfl⟩
theorem Qn{row:List (Value→Prop)}:RS (qF E r row):=⟨fun u h=>by rw[h.zk];exact .nil,fun u h=>by obtain⟨A,m,c,rfl,_⟩:=h;rfl⟩
theorem QZ{row:List (Value→Prop)}(h: ∀S∈row,RS S)(h0:0<row.length):zC row:=⟨fun S hS=>(h S hS).1,fun S hS=>(h S hS).2,h0⟩
theorem adp:zC NO:=QZ (by simp[NO,Le]) (by decide)
theorem WL:zC (Kq E r):=QZ (by simp[Kq,Le,Qm,Qn]) (by simp[Kq])
theorem Ys:zC (HZ E r):=QZ (by simp[HZ,Le,Qm,Qn]) (by simp[HZ])
theorem Yw:zC (C6 E r):=QZ (by simp[C6,Le,Qm,Qn]) (by simp[C6])
noncomputable def c25:Code:=Go.Proofs.Tryz.f25.body.get (by kernel_rfl)
def aeJ(r:Nat)(a:AV):Prop:= ∃xs,a= .sl r xs∧ ∀l∈xs,∃m,l=[.v (.int .i64 m)]
def amP(r:Nat)(a:AV):Prop:= ∃xs,a= .sl r xs∧ ∀l∈xs,∃k nm m g,l=[.v (.int .i64 k),.v (.string nm),.v (.int .i64 m),g]∧aeJ r g
def apj(r:Nat)(a:AV):Prop:= ∃xs,a= .sl r xs∧ ∀l∈xs,∃nm k g m,l=[.v (.string nm),.v (.int .i64 k),g,.v (.int .i64 m)]∧amP r g
def apl(r:Nat)(a:AV):Prop:= ∃xs,a= .sl r xs∧ ∀l∈xs,∃nm k g,l=[.v (.string nm),.v (.int .i64 k),g]∧apj r g
def RR(a:AV):Prop:= ∃r xs,a= .agg [.sl r xs]∧apl r (.sl r xs)
theorem adq{v:Value}{a:AV}(ha:aeJ r a)(h:Cz E a v):qF E r NO v:=by
 obtain⟨xs,rfl,hx⟩:=ha;refine aaw h (fun l hl=>by obtain⟨m,rfl⟩:=hx l hl;rfl) fun l hl q a S hq hS x hc=>?_;obtain⟨m,rfl⟩:=hx l hl
 match q,hq,hS with
 |0,hq,hS=>cases hq;cases hS;exact⟨m,bX hc⟩
theorem ah0{v:Value}{a:AV}(ha:amP r a)(h:Cz E a v):qF E r (Kq E r) v:=by
 obtain⟨xs,rfl,hx⟩:=ha;refine aaw h (fun l hl=>by obtain⟨_,_,_,_,rfl,_⟩:=hx l hl;rfl) fun l hl q a S hq hS x hc=>?_;obtain⟨k,nm,m,g,rfl,hg⟩:=hx l hl
 match q,hq,hS with
 |0,hq,hS=>cases hq;cases hS;exact⟨_,bX hc⟩
 |1,hq,hS=>cases hq;cases hS;exact⟨_,bX hc⟩
 |2,hq,hS=>cases hq;cases hS;exact⟨_,bX hc⟩
 |3,hq,hS=>cases hq;cases hS;exact adq hg hc
theorem akF{v:Value}{a:AV}(ha:apj r a)(h:Cz E a v):qF E r (HZ E r) v:=by
 obtain⟨xs,rfl,hx⟩:=ha;refine aaw h (fun l hl=>by obtain⟨_,_,_,_,rfl,_⟩:=hx l hl;rfl) fun l hl q a S hq hS x hc=>?_;obtain⟨nm,k,g,m,rfl,hg⟩:=hx l hl
 match q,hq,hS with
 |0,hq,hS=>cases hq;cases hS;exact⟨_,bX hc⟩
 |1,hq,hS=>cases hq;cases hS;exact⟨_,bX hc⟩
 |2,hq,hS=>cases hq;cases hS;exact ah0 hg hc
 |3,hq,hS=>cases hq;cases hS;exact⟨_,bX hc⟩
theorem akG{v:Value}{a:AV}(ha:apl r a)(h:Cz E a v):qF E r (C6 E r) v:=by
 obtain⟨xs,rfl,hx⟩:=ha;refine aaw h (fun l hl=>by obtain⟨_,_,_,rfl,_⟩:=hx l hl;rfl) fun l hl q a S hq hS x hc=>?_;obtain⟨nm,k,g,rfl,hg⟩:=hx l hl
 match q,hq,hS with
 |0,hq,hS=>cases hq;cases hS;exact⟨_,bX hc⟩
 |1,hq,hS=>cases hq;cases hS;exact⟨_,bX hc⟩
 |2,hq,hS=>cases hq;cases hS;exact akF hg hc
theorem alC{row:List (Value→Prop)}{zs:List Value}(h: ∀(q:Nat) (S:Value→Prop) (z:Value),row[q]? =some S→zs[q]? =some z→ ∀u,S u→zk u=z): ∀(q:Nat) (S:Value→Prop) (z u:Value),row[q]? =some S→zs[q]? =some z→S u→zk u=z:=
 fun q S z u h1 h2 h3=>h q S z h1 h2 u h3
def Bx(E:Env)(w:World)(B e:Nat)(row:List (Value→Prop)):Prop:=E.h.size≤B∧ ∃ys:List Value,w.heap[B]? =some (.cells ys.toArray e (0,0))∧ys.length=row.length∧ ∀(q:Nat) (S:Value→Prop) (y:Value),row[q]? =some S→ys[q]? =some y→S y
theorem Bx.mono{B e:Nat}(h:Bx E w B e row)(k:Lk E w w'):Bx E w' B e row:=by
 obtain⟨h1,ys,h2,h3⟩:=h;exact⟨h1,ys,k.get h1 h2,h3⟩
theorem X8(hw:Wf E){id T e ts ti tp tv tb:Nat}{o1 o2 o3 o4:Oper}{A:Option Addr}{m c i:Nat}{te:TI}{y:Code}{wb:World}
  (h1:o1.op= .indexAddr T (.tmp ts) (.tmp ti)∧o1.guard=none∧o1.dst=some tp)(h2:o2.op= .load e (.tmp tp)∧o2.guard=none∧o2.dst=some tv)(h3:o3.op= .alloc e∧o3.guard=none∧o3.dst=some tb)(h4:o4.op= .store e (.tmp tb) (.tmp tv)∧o4.guard=none∧o4.dst=none)
  (bc:(tZ tp 40&&(tZ tv 40&&tZ tb 40))=true)(dj:tp≠tv∧tv≠tb∧look tp bH=none∧look tv bH=none∧tp≠tb)(Zb:look tb bH=none)(ux:elemOf Ab.L T=some (e,te))(he:Ab.L e=some te)(vh:te.agg=true)(ef:te.size=row.length)
  (hs:look ts bH=some (.slice A m c))(hi:look ti bH=some (.int .i64 i))(nw:i<m)(hv:qF E r row (.slice A m c))(hR:zC row)(hf:nO 40 a bH)(h:gX E r w0 w∧Lk E wb w)
  (k: ∀a1 w1 B,Bx E w1 B e row→nO 40 a1 (dt tb (.pointer (some ⟨B,0,none⟩)) bH)→gX E r w0 w1→y.wpIn (WF none) 0 PP (NE fun a' w'=>nO 40 a' (dt tb (.pointer (some ⟨B,0,none⟩)) bH)∧gX E r w0 w'∧Lk E w1 w') a1 w1):
  (Code.seq (.region id #[o1,o2,o3,o4] false) y).wpIn (WF none) 0 PP (NE fun a' w'=>nO 40 a' bH∧gX E r w0 w'∧Lk E wb w') a w:=by
 refine Sv (R1:=fun a' w'=> ∃B,Bx E w' B e row∧nO 40 a' (dt tb (.pointer (some ⟨B,0,none⟩)) bH)∧gX E r w0 w'∧Lk E wb w') ?_ ?_
 ·exact aoP lay hw h1 h2 h3 h4 bc dj ux he vh ef hs hi nw hv hR hf h.1 fun a' w' B ys e1 e2 e3 e4 e5 e6 e7=>⟨B,⟨e1,ys,e2,e3,e4⟩,e5,e6,h.2.trans e7⟩
 ·rintro a1 w1 ⟨B,e1,e2,e3,e4⟩
  refine wpIn_mono (k a1 w1 B e1 e2 e3) fun e a2 w2 hq=>?_;obtain⟨rfl,f1,f2,f3⟩:=hq;exact⟨rfl,rM f1 Zb,f2,e4.trans f3⟩
theorem Lc(hw:Wf E)(hr:1000000≤r){id T f tb tp tv B off e T2 e2:Nat}{Oy te:TI}{o1 o2 o3:Oper}{cl:Call}{wb:World}{row2:List (Value→Prop)}
  (h1:o1.op= .fieldAddr T (.tmp tb) f∧o1.guard=none∧o1.dst=some tp)(h2:o2.op= .load T2 (.tmp tp)∧o2.guard=none∧o2.dst=some tv)(h3:o3.op= .call cl∧o3.guard=none∧o3.dst=none)(jY:cl.callee= .builtin .clear∧cl.args= #[.tmp tv]∧cl.argTypes= #[T2])
  (bc:(tZ tp 40&&tZ tv 40)=true)(dj:look tp bH=none∧look tv bH=none)(xT:iJ Ab.L T f=some off)(ht2:Ab.L T2=some Oy)(Ej:Oy.k= .slice e2)(KS:Oy.size=1)(he2:Ab.L e2=some te)
  (hl:te.zero.length=row2.length)(hz: ∀(q:Nat) (S:Value→Prop) (z:Value),row2[q]? =some S→te.zero[q]? =some z→ ∀u,S u→zk u=z)
  (hb:look tb bH=some (.pointer (some ⟨B,0,none⟩)))(hB:Bx E w B e row)(hS:row[off]? =some (qF E r row2))(hR:zC row2)(hf:nO 40 a bH)(h:gX E r w0 w∧Lk E wb w):
  (Code.region id #[o1,o2,o3] false).wpIn (WF none) 0 PP (NE fun a' w'=>nO 40 a' bH∧gX E r w0 w'∧Lk E wb w') a w:=by
 obtain⟨e1,ys,e2,e3,e4⟩:=hB;have P2:off<ys.length:=by rw[e3];exact(bq.1 hS).1
 have hy:ys[off]? =some ys[off]:=eH P2
 exact Nw lay hw hr h1 h2 h3 jY bc dj xT ht2 Ej KS he2 hl (alC hz) hb e2 hy (e4 off _ _ hS hy) hR hf h.1 fun a' w' f1 f2 f3=>⟨f1,f2,h.2.trans f3⟩
theorem UH{id T f tb tp tv tn ti tc tx B off e T2 e2 k k1 g1 g2:Nat}{Oy:TI}{o1 o2 o3 o4 q1 q2 q3:Oper}{cl:Call}{wb:World}{row2:List (Value→Prop)}{body:Code}
  (h1:o1.op= .fieldAddr T (.tmp tb) f∧o1.guard=none∧o1.dst=some tp)(h2:o2.op= .load T2 (.tmp tp)∧o2.guard=none∧o2.dst=some tv)(h3:o3.op= .call cl∧o3.guard=none∧o3.dst=some tn)(jY:cl.callee= .builtin .len∧cl.args= #[.tmp tv]∧cl.argTypes= #[T2])
  (h4:o4.op= .move (.const (.int .i64 0))∧o4.guard=none∧o4.dst=some ti)
  (j1:q1.op= .binOp .lss 3 (.tmp ti) (.tmp tn) 3∧q1.guard=none∧q1.dst=some tc)(j2:q2.op= .binOp .add 3 (.tmp ti) (.const (.int .i64 1)) 3∧q2.guard=none∧q2.dst=some tx)(j3:q3.op= .move (.tmp tx)∧q3.guard=none∧q3.dst=some ti)
  (bc:(tZ tp 40&&(tZ tv 40&&(tZ tn 40&&tZ ti 40))&&(tZ ti 40&&(tZ tc 40&&tZ tx 40)))=true)
  (dj:(tp≠tv∧tp≠tn∧tp≠ti∧tv≠tn∧tv≠ti∧tn≠ti)∧look tp bH=none∧look tv bH=none∧look tn bH=none)(ai0:(ti≠tc∧ti≠tx∧ti≠tn∧tv≠tc∧tv≠tx∧tn≠tc∧tn≠tx)∧look ti bH=none∧look tc bH=none∧look tx bH=none)
  (xT:iJ Ab.L T f=some off)(ht2:Ab.L T2=some Oy)(Ej:Oy.k= .slice e2)(KS:Oy.size=1)
  (hb:look tb bH=some (.pointer (some ⟨B,0,none⟩)))(hB:Bx E w B e row)(hS:row[off]? =some (qF E r row2))(hf:nO 40 a bH)(h:gX E r w0 w∧Lk E wb w)
  (aoq: ∀A m c i a1 w1,i<m→qF E r row2 (.slice A m c)→nO 40 a1 (dt ti (.int .i64 i) (dt tn (.int .i64 m) (dt tv (.slice A m c) bH)))→gX E r w0 w1∧Lk E wb w1→
   body.wpIn (WF none) 0 PP (NE fun a' w'=>nO 40 a' (dt ti (.int .i64 i) (dt tn (.int .i64 m) (dt tv (.slice A m c) bH)))∧gX E r w0 w'∧Lk E wb w') a1 w1):
  (Code.seq (.region id #[o1,o2,o3,o4] false) (Code.block k (Code.loop ((Code.region g1 #[q1] false).seq ((Code.cond (.tmp tc) .skip (.exit k)).seq ((Code.block k1 body).seq (Code.region g2 #[q2,q3] false))))))).wpIn (WF none) 0 PP (NE fun a' w'=>nO 40 a' bH∧gX E r w0 w'∧Lk E wb w') a w:=by
 obtain⟨e1,ys,e2,e3,e4⟩:=hB;have P2:off<ys.length:=by rw[e3];exact(bq.1 hS).1
 have hy:ys[off]? =some ys[off]:=eH P2
 have HK:=e4 off _ _ hS hy
 generalize ys[off]=v at hy HK;have atM:=HK
 obtain⟨A,m,c,rfl,hm,_⟩:=HK;rw[Bool.and_eq_true]at bc;obtain⟨⟨m1,m2,m3,m4,m5,m6⟩,m7,m8,m9⟩:=dj;obtain⟨⟨n1,n2,n3,n4,n5,n6,n7⟩,n8,n9,Ky⟩:=ai0;have up: ∀{d:Nat},tv≠d→tn≠d→look d bH=none→look d (dt tn (Value.int .i64 m) (dt tv (.slice A m c) bH))=none:=fun ha hb hc=>by rw[aJ,if_neg hb,aJ,if_neg ha];exact hc
 refine Sv (R1:=fun a' w'=>w'=w∧nO 40 a' (dt ti (.int .i64 0) (dt tn (.int .i64 m) (dt tv (.slice A m c) bH)))) ?_ ?_
 ·exact TH lay h1 h2 h3 jY h4 bc.1 ⟨m1,m2,m3,m4,m5,m6,m7,m8,m9⟩ xT ht2 Ej KS hb e2 hy hf fun a' f=>⟨rfl,f⟩
 ·rintro a1 w1 ⟨rfl,f⟩
  refine wpIn_mono (am8 (J:=fun w'=>gX E r w0 w'∧Lk E wb w') j1 j2 j3 bc.2 (bZ _ _ _) hm ⟨up m5 m6 n8,up n4 n6 n9,up n5 n7 Ky,n1,n2,n3⟩ f h fun i a w hi hf hJ=>?_) fun e a2 w2 hq=>?_
  ·exact aoq A m c i a w hi atM hf hJ
  ·obtain⟨rfl,f1,f2⟩:=hq;exact⟨rfl,rM (rM f1 (by rw[aJ,if_neg m4];exact m9)) m8,f2⟩
theorem TT{f:Nat}{fn:Func}{c:Code}(hf:PP.funcs[f]? =some fn)(hb:fn.body=some c)(hn:fn.ntmps=n)(hr:fn.results= #[]){vs:Array Value}{J:World→Prop}
  (h:c.wpIn (WF none) 0 PP (NE fun a' w'=>nO n a' []∧J w') {tmps:=vs++Array.replicate (n - vs.size) undef,defers:=[]} w):Calls PP f vs w fun e w'=>e= .returned (.tuple #[])∧J w':=by
 subst hn;refine(callsIn_wide (n:=0)).1 (callsIn_of_wp_marks (F:=Fence.wide) hf hb trivial ?_ rfl);refine wpIn_mono (F:=Fence.wide) h fun e a' w' hq=>?_;obtain⟨rfl,⟨_,f0,_⟩,f2⟩:=hq;show LeavesInM _ _ _ _ _ _ a'.defers _ _;rw[f0];refine⟨.tuple #[],?_,rfl,f2⟩;simp[results,hr,go_sem]
theorem au6:pO PP 25:=enters Go.Proofs.Tryz.func25 (c:=c25) (by kernel_rfl) (by kernel_rfl)
theorem bA{α:Type}(d:Nat):look d ([]:List (Nat×α))=none:=rfl
theorem Sl:NT PP 25 RR:=by
 intro E w r xs x hQ hr hh hw hx;obtain⟨r',xs',hq1,hq2⟩:=hQ;cases hq1;obtain⟨v,rfl,hv⟩: ∃v,x= .agg #[v]∧qF E r (C6 E r) v:=by
  cases hx with
  |agg _ ys hl hq=>
   match ys,hl with
   |[v],_=>exact⟨v,rfl,akG hq2 (hq 0 _ v rfl rfl)⟩
 have start:nO 40 {tmps:= #[Value.agg #[v]]++Array.replicate (40 - (#[Value.agg #[v]]:Array Value).size) undef,defers:=[]} [(0,.agg #[v])]:=by
  refine⟨by simp,by trivial,fun d x hd=>?_⟩;rw[aG]at hd;by_cases h0:0=d
  ·subst h0;rw[if_pos rfl]at hd;cases hd;simp[Array.getD_eq_getD_getElem?]
  ·rw[if_neg h0]at hd;cases hd
 have RA: ∀{e:Ending} {w':World},(e= .returned (.tuple #[])∧gX E r w w')→e= .returned (.tuple #[])∧lQ E r w w':=fun hq=>⟨hq.1,hq.2.spoilt⟩
 refine(TT (n:=40) (J:=fun w'=>gX E r w w') Go.Proofs.Tryz.func25 (c:=c25) (by kernel_rfl) rfl rfl ?_).mono fun e w'=>RA;refine Sv (R1:=fun a' w'=> ∃B,Bx E w' B 24 [qF E r (C6 E r)]∧nO 40 a' [(1,.pointer (some ⟨B,0,none⟩))]∧gX E r w w') ?_ ?_
 ·refine aaE ?_;refine al6 start (v:= .agg #[v]) (d:=1) (x:=0) rfl rfl rfl rfl rfl fun a1 f1=>?_;refine wpListIn_nil ⟨rfl,w.heap.size,⟨by rw[hh];exact Nat.le_refl _,[v],?_,rfl,fun q S y h1 h2=>?_⟩,f1.sub fun d x hd=>?_,(gX.refl hh).alloc _⟩
  ·rw[I8];simp[Value.cells]
  ·match q,h1,h2 with
   |0,h1,h2=>cases h1;cases h2;exact hv
  ·rw[aJ];rw[aG]at hd;by_cases h0:1=d
   ·rw[if_pos h0]at hd ⊢;exact hd
   ·rw[if_neg h0]at hd;cases hd
 rintro a1 w1 ⟨B0,hB0,f1,hI1⟩
 refine wpIn_mono (Q:=NE fun a' w'=>nO 40 a' [(1,.pointer (some ⟨B0,0,none⟩))]∧gX E r w w'∧Lk E w1 w') ?_ ?_
 case refine_2=>intro e a' w' hq;exact⟨hq.1,hq.2.1.sub fun d x hd=>(by cases hd),hq.2.2.1⟩
 refine Sv (R1:=fun a' w'=>nO 40 a' [(1,.pointer (some ⟨B0,0,none⟩))]∧gX E r w w'∧Lk E w1 w') ?_ fun a2 w2 Tu=>?_
 rotate_left
 ·exact Lc hw hr (row:=[qF E r (C6 E r)]) (row2:=C6 E r) ⟨rfl,rfl,rfl⟩ ⟨rfl,rfl,rfl⟩ ⟨rfl,rfl,rfl⟩ ⟨rfl,rfl,rfl⟩ rfl ⟨by simp[aJ,aG,bA],by simp[aJ,aG,bA]⟩ rfl rfl rfl rfl rfl rfl (fun q S z h1 h2 u hu=>by
   match q,h1,h2 with
   |0,h1,h2=>cases h1;cases h2;exact Zi hu
   |1,h1,h2=>cases h1;cases h2;exact Oa hu
   |2,h1,h2=>cases h1;cases h2;exact hu.zk) (by rfl) (hB0.mono Tu.2.2) rfl Yw Tu.1 Tu.2
 refine UH (row:=[qF E r (C6 E r)]) (row2:=C6 E r) ⟨rfl,rfl,rfl⟩ ⟨rfl,rfl,rfl⟩ ⟨rfl,rfl,rfl⟩ ⟨rfl,rfl,rfl⟩ ⟨rfl,rfl,rfl⟩ ⟨rfl,rfl,rfl⟩ ⟨rfl,rfl,rfl⟩ ⟨rfl,rfl,rfl⟩ rfl (by refine⟨by decide,?_,?_,?_⟩<;>simp[aJ,aG,bA]) (by refine⟨by decide,?_,?_,?_⟩<;>simp[aJ,aG,bA]) rfl rfl rfl rfl (by rfl) hB0 rfl f1 ⟨hI1,.refl⟩ fun A m c i a3 w3 hi HK f3 hJ3=>?_;refine X8 hw (row:=C6 E r) ⟨rfl,rfl,rfl⟩ ⟨rfl,rfl,rfl⟩ ⟨rfl,rfl,rfl⟩ ⟨rfl,rfl,rfl⟩ rfl (by refine⟨by decide,by decide,?_,?_,by decide⟩<;>simp[aJ,aG,bA]) (by simp[aJ,aG,bA]) rfl rfl rfl rfl (by simp[aJ,aG,bA]) (by simp[aJ,aG,bA]) hi HK Yw f3 hJ3 fun a4 w4 B1 hB1 f4 hI4=>?_;refine Sv (R1:=fun a' w'=>nO 40 a' (dt 3 (.pointer (some ⟨B1,0,none⟩)) (dt 11 (.int .i64 i) (dt 10 (.int .i64 m) (dt 9 (.slice A m c) [(1,.pointer (some ⟨B0,0,none⟩))]))))∧gX E r w w'∧Lk E w4 w') ?_ fun a5 w5 hq5=>?_
 rotate_left
 ·exact Lc hw hr (row:=C6 E r) (row2:=HZ E r) ⟨rfl,rfl,rfl⟩ ⟨rfl,rfl,rfl⟩ ⟨rfl,rfl,rfl⟩ ⟨rfl,rfl,rfl⟩ rfl ⟨by simp[aJ,aG,bA],by simp[aJ,aG,bA]⟩ rfl rfl rfl rfl rfl rfl (fun q S z h1 h2 u hu=>by
   match q,h1,h2 with
   |0,h1,h2=>cases h1;cases h2;exact Zi hu
   |1,h1,h2=>cases h1;cases h2;exact Oa hu
   |2,h1,h2=>cases h1;cases h2;exact hu.zk
   |3,h1,h2=>cases h1;cases h2;exact Oa hu) (by simp[aJ,aG,bA]) (hB1.mono hq5.2.2) rfl Ys hq5.1 hq5.2
 refine UH (row:=C6 E r) (row2:=HZ E r) ⟨rfl,rfl,rfl⟩ ⟨rfl,rfl,rfl⟩ ⟨rfl,rfl,rfl⟩ ⟨rfl,rfl,rfl⟩ ⟨rfl,rfl,rfl⟩ ⟨rfl,rfl,rfl⟩ ⟨rfl,rfl,rfl⟩ ⟨rfl,rfl,rfl⟩ rfl (by refine⟨by decide,?_,?_,?_⟩<;>simp[aJ,aG,bA]) (by refine⟨by decide,?_,?_,?_⟩<;>simp[aJ,aG,bA]) rfl rfl rfl rfl (by simp[aJ,aG,bA]) hB1 rfl f4 ⟨hI4,.refl⟩ fun A1 m1 c1 i1 a6 w6 hi1 atL f6 hJ6=>?_;refine X8 hw (row:=HZ E r) ⟨rfl,rfl,rfl⟩ ⟨rfl,rfl,rfl⟩ ⟨rfl,rfl,rfl⟩ ⟨rfl,rfl,rfl⟩ rfl (by refine⟨by decide,by decide,?_,?_,by decide⟩<;>simp[aJ,aG,bA]) (by simp[aJ,aG,bA]) rfl rfl rfl rfl (by simp[aJ,aG,bA]) (by simp[aJ,aG,bA]) hi1 atL Ys f6 hJ6 fun a7 w7 B2 hB2 f7 hI7=>?_;refine Sv (R1:=fun a' w'=>nO 40 a' (dt 5 (.pointer (some ⟨B2,0,none⟩)) (dt 18 (.int .i64 i1) (dt 17 (.int .i64 m1) (dt 16 (.slice A1 m1 c1) (dt 3 (.pointer (some ⟨B1,0,none⟩)) (dt 11 (.int .i64 i) (dt 10 (.int .i64 m) (dt 9 (.slice A m c) [(1,.pointer (some ⟨B0,0,none⟩))]))))))))∧gX E r w w'∧Lk E w7 w') ?_ fun a8 w8 hq8=>?_
 rotate_left
 ·exact Lc hw hr (row:=HZ E r) (row2:=Kq E r) ⟨rfl,rfl,rfl⟩ ⟨rfl,rfl,rfl⟩ ⟨rfl,rfl,rfl⟩ ⟨rfl,rfl,rfl⟩ rfl ⟨by simp[aJ,aG,bA],by simp[aJ,aG,bA]⟩ rfl rfl rfl rfl rfl rfl (fun q S z h1 h2 u hu=>by
   match q,h1,h2 with
   |0,h1,h2=>cases h1;cases h2;exact Oa hu
   |1,h1,h2=>cases h1;cases h2;exact Zi hu
   |2,h1,h2=>cases h1;cases h2;exact Oa hu
   |3,h1,h2=>cases h1;cases h2;exact hu.zk) (by simp[aJ,aG,bA]) (hB2.mono hq8.2.2) rfl WL hq8.1 hq8.2
 refine UH (row:=HZ E r) (row2:=Kq E r) ⟨rfl,rfl,rfl⟩ ⟨rfl,rfl,rfl⟩ ⟨rfl,rfl,rfl⟩ ⟨rfl,rfl,rfl⟩ ⟨rfl,rfl,rfl⟩ ⟨rfl,rfl,rfl⟩ ⟨rfl,rfl,rfl⟩ ⟨rfl,rfl,rfl⟩ rfl (by refine⟨by decide,?_,?_,?_⟩<;>simp[aJ,aG,bA]) (by refine⟨by decide,?_,?_,?_⟩<;>simp[aJ,aG,bA]) rfl rfl rfl rfl (by simp[aJ,aG,bA]) hB2 rfl f7 ⟨hI7,.refl⟩ fun A2 m2 c2 i2 a9 w9 hi2 atK f9 hJ9=>?_;refine X8 hw (row:=Kq E r) ⟨rfl,rfl,rfl⟩ ⟨rfl,rfl,rfl⟩ ⟨rfl,rfl,rfl⟩ ⟨rfl,rfl,rfl⟩ rfl (by refine⟨by decide,by decide,?_,?_,by decide⟩<;>simp[aJ,aG,bA]) (by simp[aJ,aG,bA]) rfl rfl rfl rfl (by simp[aJ,aG,bA]) (by simp[aJ,aG,bA]) hi2 atK WL f9 hJ9 fun a10 w10 B3 hB3 f10 auG=>?_;exact Lc hw hr (row:=Kq E r) (row2:=NO) ⟨rfl,rfl,rfl⟩ ⟨rfl,rfl,rfl⟩ ⟨rfl,rfl,rfl⟩ ⟨rfl,rfl,rfl⟩ rfl ⟨by simp[aJ,aG,bA],by simp[aJ,aG,bA]⟩ rfl rfl rfl rfl rfl rfl (fun q S z h1 h2 u hu=>by
  match q,h1,h2 with
  |0,h1,h2=>cases h1;cases h2;exact Oa hu) (by simp[aJ,aG,bA]) hB3 rfl adp f10 ⟨auG,.refl⟩
end Ab
namespace Ab
open Go
def xQ(P:Program)(t:Nat)(k:VK):Bool:=match P.underlying t,k with
 |some (.int q),.int q'=>q==q'
 |some .string,.str=>true
 |some .bool,.bool=>true
 |_,_=>false
def Un(P:Program):List Field→List VK→Nat→Bool
 |[],[],_=>true
 |f::fs,k::ks,off=>(f.name != "_")&&(dy f.offset off&&(xQ P f.type k&&Un P fs ks (off+1)))
 |_,_,_=>false
section
variable{P:Program}
theorem sy{t:Nat}{k:VK}(h:xQ P t k=true):P.plainKey t=true:=by
 unfold xQ at h;unfold Program.plainKey
 split at h<;>first|(cases h;done)|(rename_i hu;rw[hu])
theorem RK{t:Nat}{k:VK}(h:xQ P t k=true)(d:Nat){a b:Value}{r:List VK}{q q':List Value}(ha:bN (k::r) (a::q)=true)(hb:bN (k::r) (b::q')=true): ∃x:Bool,(x=true↔a=b)∧ ∀w,(Op.equalIn (d+1) t a b).run P w= .ok x w:=by
 unfold xQ at h
 split at h
 ·rename_i qk q0 hu;have:qk=q0:=by simpa using h
  subst this;cases a<;>simp[bN]at ha;cases b<;>simp[bN]at hb;rename_i k1 n1 k2 n2;obtain⟨rfl,_⟩:=ha;obtain⟨rfl,_⟩:=hb;exact⟨n1==n2,by simp,fun w=>run_equalIn_int w d t _ _ n1 n2 hu⟩
 ·rename_i hu;cases a<;>simp[bN]at ha;cases b<;>simp[bN]at hb;rename_i s1 s2;refine⟨s1.toList==s2.toList,?_,fun w=>run_equalIn_string w d t s1 s2 hu⟩;rw[←beq_toListBytes];obtain⟨⟨x⟩⟩:=s1;obtain⟨⟨y⟩⟩:=s2;show((⟨x⟩:Array UInt8)==⟨y⟩)=true↔_;simp
 ·rename_i hu;cases a<;>simp[bN]at ha;cases b<;>simp[bN]at hb;rename_i s1 s2;exact⟨s1==s2,by simp,fun w=>run_equalIn_bool w d t s1 s2 hu⟩
 ·cases h
theorem rO{k:VK}{r:List VK}{a:Value}{q:List Value}(h:bN (k::r) (a::q)=true):bN r q=true:=by
 cases k<;>cases a<;>simp_all [bN]
theorem xp(d:Nat)(xs ys:Array Value): ∀(fs:List Field) (ks:List VK) (off:Nat) (xr yr:List Value),Un P fs ks off=true→bN ks xr=true→bN ks yr=true→
  (∀j v,xr[j]? =some v→xs[off+j]? =some v)→(∀j v,yr[j]? =some v→ys[off+j]? =some v)→ ∃b:Bool,(b=true↔xr=yr)∧ ∀w,(Op.eqFields (d+1) xs ys fs).run P w= .ok b w
 |[],[],off,[],[],_,_,_,_,_=>⟨true,by simp,fun w=>by simp[Op.eqFields]⟩
 |f::fs,k::ks,off,a::xr,b::yr,h,hx,hy,gx,gy=>by
  simp only[Un,Bool.and_eq_true,bne_iff_ne,ne_eq]at h;obtain⟨h1,h2,h3,h4⟩:=h;have h2:=dK h2
  obtain⟨r,hr1,Za⟩:=RK h3 d hx hy;obtain⟨r',hr3,hr4⟩:=xp d xs ys fs ks (off+1) xr yr h4 (rO hx) (rO hy) (fun j v hj=>by have:=gx (j+1) v (by simpa using hj);rwa [show off+1+j=off+(j+1)by omega]) (fun j v hj=>by have:=gy (j+1) v (by simpa using hj);rwa [show off+1+j=off+(j+1)by omega]);have p1: ∀w,(Go.part f.type xs f.offset).run P w= .ok a w:=fun w=>run_part_plain w (sy h3) (by rw[h2];exact gx 0 a rfl)
  have p2: ∀w,(Go.part f.type ys f.offset).run P w= .ok b w:=fun w=>run_part_plain w (sy h3) (by rw[h2];exact gy 0 b rfl)
  cases r with
  |false=>
   refine⟨false,?_,fun w=>by simp[Op.eqFields,h1,Sem.run_bind,p1,p2,Za,Result.andThen]⟩;constructor
   ·intro h;cases h
   ·intro h;injection h with e1 _;exact absurd (hr1.2 e1) (by simp)
  |true=>
   refine⟨r',?_,fun w=>by simp[Op.eqFields,h1,Sem.run_bind,p1,p2,Za,hr4,Result.andThen]⟩;rw[hr3,hr1.1 rfl];simp
 |[],_::_,_,_,_,h,_,_,_,_=>by simp[Un]at h
 |_::_,[],_,_,_,h,_,_,_,_=>by simp[Un]at h
 |_::_,k::_,_,[],_,_,hx,_,_,_=>by cases k<;>simp[bN]at hx
 |_::_,k::_,_,_::_,[],_,_,hy,_,_=>by cases k<;>simp[bN]at hy
 |[],[],_,_::_,_,_,hx,_,_,_=>by simp[bN]at hx
 |[],[],_,[],_::_,_,_,hy,_,_=>by simp[bN]at hy
theorem zp(d:Nat){e:Nat}{k:VK}(hk:xQ P e k=true)(hc:P.cellsOf e=1)(xs ys:Array Value): ∀(n off:Nat) (xr yr:List Value),bN (List.replicate n k) xr=true→bN (List.replicate n k) yr=true→
  (∀j v,xr[j]? =some v→xs[off+j]? =some v)→(∀j v,yr[j]? =some v→ys[off+j]? =some v)→ ∃b:Bool,(b=true↔xr=yr)∧ ∀w,(Op.eqItems (d+1) e 1 xs ys (List.range' off n)).run P w= .ok b w
 |0,off,[],[],_,_,_,_=>⟨true,by simp,fun w=>by simp[Op.eqItems]⟩
 |n+1,off,a::xr,b::yr,hx,hy,gx,gy=>by
  rw[List.replicate_succ]at hx hy;obtain⟨r,hr1,Za⟩:=RK hk d hx hy;obtain⟨r',hr3,hr4⟩:=zp d hk hc xs ys n (off+1) xr yr (rO hx) (rO hy) (fun j v hj=>by have:=gx (j+1) v (by simpa using hj);rwa [show off+1+j=off+(j+1)by omega]) (fun j v hj=>by have:=gy (j+1) v (by simpa using hj);rwa [show off+1+j=off+(j+1)by omega]);have p1: ∀w,(Go.part e xs (off*1)).run P w= .ok a w:=fun w=>run_part_plain w (sy hk) (by rw[Nat.mul_one];exact gx 0 a rfl)
  have p2: ∀w,(Go.part e ys (off*1)).run P w= .ok b w:=fun w=>run_part_plain w (sy hk) (by rw[Nat.mul_one];exact gy 0 b rfl)
  rw[List.range'_succ];cases r with
  |false=>
   refine⟨false,?_,fun w=>by rw[Op.eqItems];simp only[Sem.run_bind,p1,p2,Za,Result.andThen];simp⟩;constructor
   ·intro h;cases h
   ·intro h;injection h with e1 _;exact absurd (hr1.2 e1) (by simp)
  |true=>
   refine⟨r',?_,fun w=>by rw[Op.eqItems];simp only[Sem.run_bind,p1,p2,Za,Result.andThen];simpa using hr4 w⟩;rw[hr3,hr1.1 rfl];simp
 |0,_,_::_,_,hx,_,_,_=>by simp[bN]at hx
 |0,_,[],_::_,_,hy,_,_=>by simp[bN]at hy
 |n+1,_,[],_,hx,_,_,_=>by rw[List.replicate_succ]at hx;cases k<;>simp[bN]at hx
 |n+1,_,_::_,[],_,hy,_,_=>by rw[List.replicate_succ]at hy;cases k<;>simp[bN]at hy
theorem Fw{t:Nat}{ks:List VK}(ht:P.underlying t=some (.struct (P.fieldsOf t)))(hp:P.stoodInHeld t=false)(hf:Un P (P.fieldsOf t).toList ks 0=true)(hg:P.eqGuardType P.depth t=false):wU P t ks:=
 ⟨(fun xs ys hx hy=>by
  obtain⟨b,h1,h2⟩:=xp (P:=P) 9998 xs.toArray ys.toArray _ ks 0 xs ys hf hx hy (fun j v h=>by simpa using h) (fun j v h=>by simpa using h);exact⟨b,h1,fun w=>(run_equalIn_struct w 9999 t _ _ ht hp).trans (h2 w)⟩),hg⟩
theorem I5{t e n:Nat}{k:VK}{i:TypeInfo}(ht:P.underlying t=some (.array n e))(hi:P.info? e=some i)(hk:xQ P e k=true)(hc:P.cellsOf e=1)(hg:P.eqGuardType P.depth t=false):wU P t (List.replicate n k):=
 ⟨(fun xs ys hx hy=>by
  obtain⟨b,h1,h2⟩:=zp (P:=P) 9998 hk hc xs.toArray ys.toArray n 0 xs ys hx hy (fun j v h=>by simpa using h) (fun j v h=>by simpa using h);refine⟨b,h1,fun w=>?_⟩;rw[run_equalIn_array w 9999 _ _ ht hi,hc,List.range_eq_range'];exact h2 w),hg⟩
theorem FH{ks:List VK}{kv:List Value}(h:bN ks kv=true):Instr.sameBits 10000 (gS kv) (gS kv)=true:=by
 have cell: ∀{ks:List VK} {kv:List Value},bN ks kv=true→ ∀x∈kv,∀n,Instr.sameBits (n+1) x x=true:=by
  intro ks kv h
  induction kv generalizing ks with
  |nil=>intro x hx;cases hx
  |cons y r ih=>
   cases ks with
   |nil=>simp[bN]at h
   |cons k ks=>
    intro x hx n;rcases List.mem_cons.1 hx with rfl|hx
    ·cases k<;>cases x<;>simp_all [bN,Instr.sameBits];all_goals(rw[beq_toListBytes];simp)
    ·exact ih (rO h) x hx n
 have hz: ∀(l:List Value),(∀x∈l,Instr.sameBits 9999 x x=true)→((l.zip l).all fun(x,y)=>Instr.sameBits 9999 x y)=true:=fun l hl=>by
  induction l with
  |nil=>rfl
  |cons a r ih=>simp only[List.zip_cons_cons,List.all_cons,Bool.and_eq_true];exact⟨hl a (by simp),ih fun x hx=>hl x (by simp[hx])⟩
 match kv,h with
 |[x],h=>exact cell h x (by simp) 9999
 |[],_=>rfl
 |x::y::r,h=>
  show Instr.sameBits 10000 (.agg (x::y::r).toArray) (.agg (x::y::r).toArray)=true;rw[Instr.sameBits];simp only[BEq.rfl,Bool.true_and];exact hz _ fun z hz=>cell h z hz 9998
theorem abr{t:Nat}{q:IntKind}(hu:P.underlying t=some (.int q)):KeyLaw P t [.int q]:=by
 have o8: ∀kv,bN [.int q] kv=true→ ∃n,kv=[.int q n]:=fun kv h=>by
  match kv,h with
  |[x],h=>cases x<;>simp[bN]at h;exact⟨_,by rw[h]⟩
  |[],h=>simp[bN]at h
  |x::y::r,h=>cases x<;>simp[bN]at h
 refine⟨fun kv h b w=>?_,fun kv es h GB w=>?_,fun kv h=>FH h⟩
 ·obtain⟨n,rfl⟩:=o8 kv h;show(Instr.checkKey b (9999+1) t (.int q n)).run P w=_;rw[Instr.checkKey];simp[Sem.run_bind,run_underlying hu,Result.andThen]
 ·obtain⟨n,rfl⟩:=o8 kv h;have aiZ: ∀(es:List MapEntry) (i:Nat),(∀e∈es,∃B4,bN [.int q] B4=true∧e.key=gS B4)→Instr.findNow (.int q) (.int q n) es i=some (lN (.int q n) es i):=by
   intro es
   induction es with
   |nil=>intro i _;rfl
   |cons e r ih=>
    intro i GB;obtain⟨B4,h1,h2⟩:=GB e (by simp);obtain⟨m,rfl⟩:=o8 B4 h1;have h2:e.key= .int q m:=h2
    unfold Instr.findNow lN;rw[h2];simp only[Instr.sameNow,if_true];by_cases hnm:n=m
    ·subst hnm;simp
    ·have dj: ¬(Value.int q m=Value.int q n):=fun e=>by injection e with _ e;exact hnm e.symm
     rw[if_neg dj];have:(n==m)=false:=by simpa using hnm
     rw[this];exact ih (i+1) fun e he=>GB e (by simp[he])
  simp only[gS];simp[Instr.findKey,Sem.run_bind,run_underlying hu,Result.andThen,aiZ es 0 GB]
theorem DW{b:Bool}(d:Nat)(xs:Array Value): ∀(fs:List Field) (ks:List VK) (off:Nat) (xr:List Value),Un P fs ks off=true→bN ks xr=true→(∀j v,xr[j]? =some v→xs[off+j]? =some v)→
  ∀w,(forIn fs PUnit.unit fun f _=>(if f.name≠ "_" then do
    let x←Go.part f.type xs f.offset
    Instr.checkKey b (d+1) f.type x
    pure (ForInStep.yield PUnit.unit)
   else pure (ForInStep.yield PUnit.unit)):Sem PUnit).run P w= .ok PUnit.unit w
 |[],[],off,[],_,_,_,w=>by simp
 |f::fs,k::ks,off,a::xr,h,hx,gx,w=>by
  simp only[Un,Bool.and_eq_true,bne_iff_ne,ne_eq]at h;obtain⟨h1,h2,h3,h4⟩:=h;have h2:=dK h2
  have p1: ∀w,(Go.part f.type xs f.offset).run P w= .ok a w:=fun w=>run_part_plain w (sy h3) (by rw[h2];exact gx 0 a rfl)
  have ih:=DW (b:=b) d xs fs ks (off+1) xr h4 (rO hx) (fun j v hj=>by have:=gx (j+1) v (by simpa using hj);rwa [show off+1+j=off+(j+1)by omega]) w
  have N7: ∀w,(Instr.checkKey b (d+1) f.type a).run P w= .ok () w:=fun w=>by
   unfold xQ at h3
   split at h3
   ·rename_i q q' hu;cases a<;>simp[bN]at hx;simp[Instr.checkKey,Sem.run_bind,run_underlying hu,Result.andThen]
   ·rename_i hu;cases a<;>simp[bN]at hx;simp[Instr.checkKey,Sem.run_bind,run_underlying hu,Result.andThen]
   ·rename_i hu;cases a<;>simp[bN]at hx;simp[Instr.checkKey,Sem.run_bind,run_underlying hu,Result.andThen]
   ·cases h3
  simp only[List.forIn_cons,Sem.run_bind,h1,ne_eq,not_false_eq_true,if_true,p1,Result.andThen,N7,Sem.run_pure];exact ih
 |[],_::_,_,_,h,_,_,_=>by simp[Un]at h
 |_::_,[],_,_,h,_,_,_=>by simp[Un]at h
 |_::_,k::_,_,[],_,hx,_,_=>by cases k<;>simp[bN]at hx
 |[],[],_,_::_,_,hx,_,_=>by simp[bN]at hx
theorem OC{t:Nat}{ks:List VK}(hlen:2≤ks.length)(ht:P.underlying t=some (.struct (P.fieldsOf t)))(hp:P.stoodInHeld t=false)(hf:Un P (P.fieldsOf t).toList ks 0=true)(hg:P.eqGuardType P.depth t=false):KeyLaw P t ks:=by
 have o8: ∀kv,bN ks kv=true→gS kv= .agg kv.toArray:=fun kv h=>by
  have:=jK h
  match kv,this with
  |[],h=>simp at h;omega
  |[x],h=>simp at h;omega
  |x::y::r,_=>rfl
 have heq:=(Fw ht hp hf hg).eq
 refine⟨fun kv h b w=>?_,fun kv es h GB w=>?_,fun kv h=>FH h⟩
 ·rw[o8 kv h];have:=DW (P:=P) (b:=b) 9998 kv.toArray _ ks 0 kv hf h (fun j v hj=>by simpa using hj) w
  show(Instr.checkKey b (9999+1) t (.agg kv.toArray)).run P w=_;rw[Instr.checkKey];simp only[Sem.run_bind,run_underlying ht,Result.andThen];rw[←Array.forIn_toList]
  split
  ·rename_i h;cases this.symm.trans h;rfl
  ·rename_i h;cases this.symm.trans h
 ·rw[o8 kv h];have auA: ∀(es:List MapEntry) (i:Nat),(∀e∈es,∃B4,bN ks B4=true∧e.key=gS B4)→(Instr.findAsking t (.agg kv.toArray) es i).run P w= .ok (lN (.agg kv.toArray) es i) w:=by
   intro es
   induction es with
   |nil=>intro i _;simp[Instr.findAsking,lN]
   |cons e r ih=>
    intro i GB;obtain⟨B4,h1,h2⟩:=GB e (by simp);rw[o8 B4 h1]at h2;obtain⟨b,AF,CL⟩:=heq kv B4 h h1;have B5:=ih (i+1) fun e he=>GB e (by simp[he])
    unfold lN;have aof:(e.key=Value.agg kv.toArray)↔b=true:=by
     rw[h2,AF];constructor
     ·intro e;injection e with e;exact(List.toArray_inj e).symm
     ·intro e;rw[e]
    cases b with
    |true=>rw[if_pos (aof.2 rfl)];simp[Instr.findAsking,h2,Op.equal,Op.maxDepth,CL,Sem.run_bind,Result.andThen]
    |false=>rw[if_neg (fun e=>by have:=aof.1 e;cases this)];simp[Instr.findAsking,h2,Op.equal,Op.maxDepth,CL,Sem.run_bind,Result.andThen,B5]
  cases es with
  |nil=>simp[Instr.findKey,Sem.run_bind,run_underlying ht,Result.andThen,Instr.findNow,lN]
  |cons e r=>
   obtain⟨B4,h1,h2⟩:=GB e (by simp);have aiZ:Instr.findNow (.struct (P.fieldsOf t)) (.agg kv.toArray) (e::r) 0=none:=by simp[Instr.findNow,Instr.sameNow]
   simp only[Instr.findKey,Sem.run_bind,run_underlying ht,Result.andThen,aiZ];exact auA (e::r) 0 GB
end
def mv(t:Nat):Option (List VK):=bif dy t 3 then some [.int .i64]else bif dy t 87 then some [.int .i64,.str,.int .i64]else none
def uk(t:Nat):Option (List VK):=bif dy t 87 then some [.int .i64,.str,.int .i64]else bif dy t 122 then some (List.replicate 6 (.int .i64))else bif dy t 110 then some (List.replicate 12 (.int .i64))else none
theorem RC:PP.eqGuardType PP.depth 87=false:=by kernel_rfl
theorem QR:PP.underlying 87=some (.struct (PP.fieldsOf 87)):=by kernel_rfl
theorem QV:PP.stoodInHeld 87=false:=by kernel_rfl
theorem XQ:Un PP (PP.fieldsOf 87).toList [.int .i64,.str,.int .i64] 0=true:=by kernel_rfl
theorem KI: ∀t ks,mv t=some ks→KeyLaw PP t ks:=fun t ks h=>by
 unfold mv at h;cases h1:dy t 3 with
 |true=>
  rw[h1,az]at h;cases h;rw[dK h1];exact abr (by kernel_rfl)
 |false=>
  rw[h1,aC]at h;cases h2:dy t 87 with
  |true=>
   rw[h2,az]at h;cases h;rw[dK h2];exact OC (by simp) QR QV XQ RC
  |false=>rw[h2,aC]at h;cases h
theorem RJ: ∀t ks,uk t=some ks→wU PP t ks:=fun t ks h=>by
 unfold uk at h;cases h2:dy t 87 with
 |true=>
  rw[h2,az]at h;cases h;rw[dK h2];exact Fw QR QV XQ RC
 |false=>
  rw[h2,aC]at h;cases h3:dy t 122 with
  |true=>
   rw[h3,az]at h;cases h;rw[dK h3];obtain⟨i,hi⟩:=info_of_underlying (P:=PP) (t:=3) (d:= .int .i64) (by kernel_rfl);exact I5 (e:=3) (by kernel_rfl) hi (by kernel_rfl) (by kernel_rfl) (by kernel_rfl)
  |false=>
   rw[h3,aC]at h;cases h4:dy t 110 with
   |true=>
    rw[h4,az]at h;cases h;rw[dK h4];obtain⟨i,hi⟩:=info_of_underlying (P:=PP) (t:=3) (d:= .int .i64) (by kernel_rfl);exact I5 (e:=3) (by kernel_rfl) hi (by kernel_rfl) (by kernel_rfl) (by kernel_rfl)
   |false=>rw[h4,aC]at h;cases h
end Ab
namespace Ab
open Go
section
variable{α β R S:Type}
def iter(body:(S→Option R)→S→Option R):Nat→S→Option R
 |0,_=>none
 |n+1,s=>body (iter body n) s
def aw(l:List α):Int:=l.length
def gI(l:List α)(i:Int):Option α:=if 0≤i then l[i.toNat]? else none
def gK(l:List α)(k:Nat):Option α:=l[k]?
def gN(m:Nat)(i:Int):Option Nat:=if 0≤i∧i<m then some i.toNat else none
def gB(b:ByteArray)(i:Int):Option Int:=if 0≤i then(b[i.toNat]?).map fun c=>(c.toNat:Int)else none
def aP(b:Nat)(l:List α)(x:α):Option (List α):=if(l.length+1)*b≤70368744177664∧l.length+1≤70368744177664 then some (l++[x])else none
def Lh(b:Nat)(l m:List α):Option (List α):=if(l.length+m.length)*b≤70368744177664∧l.length+m.length≤70368744177664 then some (l++m)else none
def vZ(b:Nat)(n:Int)(x:α):Option (List α):=if 0≤n∧n≤9223372036854775807∧n*b≤140737488355328 then some (List.replicate n.toNat x)else none
def gD(l:List α)(k:Nat)(x:α):Option (List α):=if k<l.length then some (l.set k x)else none
def GZ(l:List α)(a b:Int):Option (List α):=if 0≤a∧a≤b∧b≤l.length then some ((l.take b.toNat).drop a.toNat)else none
def G3(l:ByteArray)(a b:Int):Option ByteArray:=if 0≤a∧a≤b∧b≤l.size then some (l.extract a.toNat b.toNat)else none
def nH(b:ByteArray):Int:=b.size
def ei(n:Nat)(l:List α):Option Unit:=if n=l.length then some ()else none
def dp(g b:Bool)(x:Option α)(d:α):Option α:=bif g==b then x else some d
theorem bnd{o:Option α}{f:α→Option β}{v:β}(h:o.bind f=some v): ∃a,o=some a∧f a=some v:=by
 cases o with
 |none=>cases h
 |some a=>exact⟨a,rfl,h⟩
theorem ah{o:Option α}{f:α→Option β}{v:β}{G:Prop}(h:o.bind f=some v)(k: ∀a,o=some a→f a=some v→G):G:=by
 obtain⟨a,h1,h2⟩:=bnd h;exact k a h1 h2
theorem lC{α0 α1:Type}{o:Option (α0×α1)}{f:α0×α1→Option β}{v:β}{G:Prop}(h:o.bind f=some v)(k: ∀a0 a1,o=some (a0,a1)→f (a0,a1)=some v→G):G:=by
 obtain⟨⟨a0,a1⟩,h1,h2⟩:=bnd h;exact k a0 a1 h1 h2
theorem apk{α0 α1 α2:Type}{o:Option (α0×α1×α2)}{f:α0×α1×α2→Option β}{v:β}{G:Prop}(h:o.bind f=some v)(k: ∀a0 a1 a2,o=some (a0,a1,a2)→f (a0,a1,a2)=some v→G):G:=by
 obtain⟨⟨a0,a1,a2⟩,h1,h2⟩:=bnd h;exact k a0 a1 a2 h1 h2
theorem RU{α0 α1 α2 α3 α4:Type}{o:Option (α0×α1×α2×α3×α4)}{f:α0×α1×α2×α3×α4→Option β}{v:β}{G:Prop}(h:o.bind f=some v)(k: ∀a0 a1 a2 a3 a4,o=some (a0,a1,a2,a3,a4)→f (a0,a1,a2,a3,a4)=some v→G):G:=by
 obtain⟨⟨a0,a1,a2,a3,a4⟩,h1,h2⟩:=bnd h;exact k a0 a1 a2 a3 a4 h1 h2
theorem Rm{α0 α1 α2:Type}{a:α0×α1×α2}{f:α0×α1×α2→Option β}{v:β}{G:Prop}(h:(some a).bind f=some v)(k: ∀a0 a1 a2,a=(a0,a1,a2)→f (a0,a1,a2)=some v→G):G:=k a.1 a.2.1 a.2.2 rfl h
theorem letE{a:α}{f:α→Option β}{v:β}{G:Prop}(h:(some a).bind f=some v)(k: ∀x,a=x→f x=some v→G):G:=k a rfl h
theorem aE{g b:Bool}{x:Option α}{d a:α}(h:dp g b x d=some a)(hg:g=b):x=some a:=by
 subst hg;unfold dp at h;simpa using h
theorem OF{W:St→(Ex→St→Prop)→Prop}{s:St}{Q:Ex→St→Prop}{body:(S→Option R)→S→Option R}{n:Nat}{Ce:S}{v:R}(h:iter body n Ce=some v)
  (vu:Option (List Fr))(vt:S→List (Nat×AV))(vb:S→List (Nat×Ob))(vg:S→Nat→Option Ob)(vn:S→Nat)(h0:wk s (sL s vu (vt Ce) (vb Ce) (vg Ce) (vn Ce)))
  (hr: ∀(R:St→Prop) (m:Nat),(∀(st:S) (s':St),iter body m st=some v→wk s' (sL s vu (vt st) (vb st) (vg st) (vn st))→R s')→ ∀st:S,body (iter body m) st=some v→
   W (sL s vu (vt st) (vb st) (vg st) (vn st)) (OO R Q)):rV W n s Q:=by
 have key: ∀(n:Nat) (st:S),iter body n st=some v→fQ W Q n (sL s vu (vt st) (vb st) (vg st) (vn st)):=fun n=>by
  induction n with
  |zero=>intro st h;cases h
  |succ m ih=>intro st h;exact hr _ m (fun st' s' h1 h2=> .inr ⟨_,h2,ih st' h1⟩) st h
 exact .inr ⟨_,h0,key n Ce h⟩
theorem step_loop{W:St→(Ex→St→Prop)→Prop}{s:St}{Q:Ex→St→Prop}{body:(S→Option R)→S→Option R}{n:Nat}{Ce:S}{v:R}(h:iter body n Ce=some v)
  (vu:Option (List Fr))(vt:S→List (Nat×AV))(vb:S→List (Nat×Ob))(vg:S→Nat→Option Ob)(vn:S→Nat)(h0:wk s (sL s vu (vt Ce) (vb Ce) (vg Ce) (vn Ce)))
  (hr: ∀(R:St→Prop) (m:Nat),(∀(st:S) (s':St),iter body m st=some v→wk s' (sL s vu (vt st) (vb st) (vg st) (vn st))→R s')→ ∀st:S,body (iter body m) st=some v→
   W (sL s vu (vt st) (vb st) (vg st) (vn st)) (OO R Q)):QK W s Q:=⟨n,OF h vu vt vb vg vn h0 hr⟩
def aoT:List Nat→List (Nat×Ob)→List (Nat×Ob)
 |[],b=>b
 |d::r,b=>aoT r (del d b)
def sK(s:St)(vd:List Nat)(vu:Option (List Fr))(vt:List (Nat×AV))(vb:List (Nat×Ob))(vg:Nat→Option Ob)(vn:Nat):St:=
 {s with t:=UM vt s.t,b:=UM vb (aoT vd s.b),g:=vg,nx:=vn,up:=match vu with|none=>s.up|some u=>u}
theorem OG{W:St→(Ex→St→Prop)→Prop}{s:St}{Q:Ex→St→Prop}{body:(S→Option R)→S→Option R}{n:Nat}{Ce:S}{v:R}(h:iter body n Ce=some v)(vd:List Nat)
  (vu:Option (List Fr))(vt:S→List (Nat×AV))(vb:S→List (Nat×Ob))(vg:S→Nat→Option Ob)(vn:S→Nat)(h0:wk s (sK s vd vu (vt Ce) (vb Ce) (vg Ce) (vn Ce)))
  (hr: ∀(R:St→Prop) (m:Nat),(∀(st:S) (s':St),iter body m st=some v→wk s' (sK s vd vu (vt st) (vb st) (vg st) (vn st))→R s')→ ∀st:S,body (iter body m) st=some v→
   W (sK s vd vu (vt st) (vb st) (vg st) (vn st)) (OO R Q)):rV W n s Q:=by
 have key: ∀(n:Nat) (st:S),iter body n st=some v→fQ W Q n (sK s vd vu (vt st) (vb st) (vg st) (vn st)):=fun n=>by
  induction n with
  |zero=>intro st h;cases h
  |succ m ih=>intro st h;exact hr _ m (fun st' s' h1 h2=> .inr ⟨_,h2,ih st' h1⟩) st h
 exact .inr ⟨_,h0,key n Ce h⟩
theorem OD{W:St→(Ex→St→Prop)→Prop}{s:St}{Q:Ex→St→Prop}{N:Nat}(h: ∀R:St→Prop,(∀s',rV W N s' Q→R s')→W s (OO R Q)):rV W (N+1) s Q:=
 .inl (h _ fun _ hs=>hs)
theorem kU{W:St→(Ex→St→Prop)→Prop}{s:St}{Q:Ex→St→Prop}(N:Nat)(h: ∀R:St→Prop,(∀s',rV W N s' Q→R s')→W s (OO R Q)):QK W s Q:=⟨N+1,OD h⟩
theorem EP{x c:Bool}{A B:Option R}{v:R}{G1 G2:Prop}(h:(bif c then A else B)=some v)(hx:x=c)(h1:A=some v→G1)(h2:B=some v→G2):(x=true→G1)∧(x=false→G2):=by
 subst hx;exact⟨fun e=>h1 (by subst e;exact h),fun e=>h2 (by subst e;exact h)⟩
variable{M:Md}{I:Pr}{enc:α→List AV}
theorem aK(hM:M= .ak):M.map enc []=[]:=by subst hM;rfl
theorem Rd(hM:M= .ak):[]=M.map enc []:=by subst hM;rfl
theorem an(hI:I=ak)(hM:M= .ak){l:List α}{z:Int}(hz:aw l=z):Int.ofNat (I.fV (M.map enc l))=z:=by
 subst hI;subst hM;rw[←hz];simp[ak,Md.ak,aw]
theorem aq(hM:M= .ak){l:List α}{n:Int}{x:α}(hx:gI l n=some x){k:Nat}(hk:(enc x).length=k):0≤n∧(M.map enc l)[n.toNat]? =some (enc x)∧(enc x).length=k:=by
 subst hM;unfold gI at hx
 split at hx
 ·rename_i h0;refine⟨h0,?_,hk⟩;show(List.map enc l)[n.toNat]? =_;rw[List.getElem?_map,hx];rfl
 ·cases hx
theorem cE(hI:I=ak)(hM:M= .ak){l:List α}{n:Int}{k:Nat}(hk:gN (M.ln l) n=some k):I.within n (M.ln l)∧I.nat n=k:=by
 subst hI;subst hM;unfold gN at hk
 split at hk
 ·rename_i h;exact⟨h,o5 hk⟩
 ·cases hk
theorem bj(hM:M= .ak){l:List α}{k:Nat}{x:α}(hx:gK l k=some x):(M.map enc l)[k]? =some (enc x):=by
 subst hM;show(List.map enc l)[k]? =_;rw[List.getElem?_map];unfold gK at hx;rw[hx];rfl
theorem Qw{C:ey}(hI:C.I=ak)(hM:M= .ak){ti:TI}{l m l':List α}(hx:Lh ti.bytes l m=some l')(he: ∀y,(enc y).length=ti.size)(h1:oZ 1 ti.size=true)(ho: ∀y,rC (enc y)=true):
  YB C ti (M.map enc l) (M.map enc m) (M.map enc l'):=by
 subst hM;unfold Lh at hx
 split at hx
 ·rename_i hr;cases hx;refine⟨⟨?_,h1,?_,fun c hc=>?_⟩,fun c hc=>?_,?_⟩
  ·rw[hI];show(_∧_);simp only[ak,Md.ak,List.length_map];exact hr
  ·simp only[Md.ak];clear hr
   induction m with
   |nil=>rfl
   |cons y r ih=>simp only[List.map_cons,cR,ho,ih,Bool.and_true]
  ·simp only[Md.ak,List.mem_map]at hc;obtain⟨y,_,rfl⟩:=hc;exact he y
  ·simp only[Md.ak,List.mem_map]at hc;obtain⟨y,_,rfl⟩:=hc;exact he y
  ·rw[hI];simp[ak,Md.ak]
 ·cases hx
theorem WC{b:Nat}{l l':List α}{x:α}(hx:aP b l x=some l'):Lh b l [x]=some l':=hx
theorem ay{C:ey}(hI:C.I=ak)(hM:M= .ak){ti:TI}{l l':List α}{x:α}(hx:aP ti.bytes l x=some l')(he: ∀y,(enc y).length=ti.size)(h1:oZ 1 ti.size=true)(ho: ∀y,rC (enc y)=true):
  YB C ti (M.map enc l) (M.map enc [x]) (M.map enc l'):=Qw hI hM (WC hx) he h1 ho
theorem eh{C:ey}(hI:C.I=ak)(hM:M= .ak){ti:TI}{n:Int}{x:α}{l:List α}(hx:vZ ti.bytes n x=some l)(h1:1≤ti.size)(he:ti.zero.map AV.v=enc x):
  am6 C ti n n (M.map enc l) (M.ln l):=by
 subst hM;unfold vZ at hx
 split at hx
 ·rename_i hr;cases hx;refine⟨h1,rfl,?_,?_,?_⟩
  ·rw[hI];exact hr
  ·rw[hI,he];simp[ak,Md.ak]
  ·simp[Md.ak]
 ·cases hx
theorem dV(hI:I=ak)(hM:M= .ak){ti:TI}{l l':List α}{k off z:Nat}{x y:α}{cs:List AV}(hy:gK l k=some y)(hx:gD l k x=some l')(hz:off+ti.size≤z)(hi:cw cs=true)(he:bV (enc y) off cs=enc x):
  alZ I ti (M.map enc l) k off z z cs (M.map enc l'):=by
 subst hI;subst hM;unfold gD at hx
 split at hx
 ·cases hx;refine⟨enc y,rfl,?_,hz,hi,?_⟩
  ·show(List.map enc l)[k]? =_;rw[List.getElem?_map];unfold gK at hy;rw[hy];rfl
  ·rw[he];show(List.map enc l).set k (enc x)=_;rw[←List.map_set];rfl
 ·cases hx
theorem K9(hI:I=ak)(hM:M= .ak){l l':List α}{a b:Int}{k:Nat}(hx:GZ l a b=some l')(he: ∀y,(enc y).length=k):
  (I.nz a b (I.fV (M.map enc l))∧ ∀cs∈M.map enc l,cs.length=k)∧I.CZ (M.map enc l) a b=M.map enc l':=by
 subst hI;subst hM;unfold GZ at hx
 split at hx
 ·rename_i hr;cases hx;refine⟨⟨?_,fun c hc=>?_⟩,?_⟩
  ·show 0≤a∧a≤b∧b≤((List.map enc l).length:Int);rw[List.length_map];exact hr
  ·simp only[Md.ak,List.mem_map]at hc;obtain⟨y,_,rfl⟩:=hc;exact he y
  ·simp[ak,Md.ak,List.map_take,List.map_drop]
 ·cases hx
theorem ac9(hI:I=ak)(hM:M= .ak){l l':List α}{a:Int}{k:Nat}(hx:GZ l a (aw l)=some l')(he: ∀y,(enc y).length=k):
  (I.nz a (Int.ofNat (I.fV (M.map enc l))) (I.fV (M.map enc l))∧ ∀cs∈M.map enc l,cs.length=k)∧I.CZ (M.map enc l) a (Int.ofNat (I.fV (M.map enc l)))=M.map enc l':=by
 have:=K9 (enc:=enc) hI hM hx he
 rw[←an (enc:=enc) hI hM (rfl:aw l=_)]at this;exact this
theorem iS(hI:I=ak){b:ByteArray}{z:Int}(hz:nH b=z):Int.ofNat (I.Qp b)=z:=by
 subst hI;rw[←hz];rfl
theorem La(hI:I=ak){b b':ByteArray}{l h:Int}(hx:G3 b l h=some b'):I.nz l h (I.Qp b)∧I.K8 b l h=b':=by
 subst hI;unfold G3 at hx
 split at hx
 ·rename_i hr;cases hx;exact⟨hr,rfl⟩
 ·cases hx
theorem G0(hI:I=ak){b b':ByteArray}{l:Int}(hx:G3 b l (nH b)=some b'):I.nz l (Int.ofNat (I.Qp b)) (I.Qp b)∧I.K8 b l (Int.ofNat (I.Qp b))=b':=by
 have:=La hI hx
 rw[←iS hI (rfl:nH b=_)]at this;exact this
theorem pX{b:ByteArray}{n z:Int}(hx:gB b n=some z):0≤n∧ ∃c:UInt8,b[n.toNat]? =some c∧(c.toNat:Int)=z:=by
 unfold gB at hx
 split at hx
 ·rename_i h0;cases hc:b[n.toNat]? with
  |none=>rw[hc]at hx;cases hx
  |some c=>rw[hc]at hx;cases hx;exact⟨h0,c,rfl,rfl⟩
 ·cases hx
theorem abb(hM:M= .ak){l0 l:List α}{r:Nat}{u:Unit}(h:ei (M.ln l0) l=some u):AV.sl r ((M.map enc l).take (M.ln l0))=AV.sl r (M.map enc l):=by
 subst hM;unfold ei at h
 split at h
 ·rename_i hl;rw[hl];congr 1;exact List.take_of_length_le (by simp[Md.ak])
 ·cases h
theorem ez(a:AV):QM a a:=by
 cases a with
 |v x=>
  cases x with
  |slice A n c=>
   cases A with
   |none=>cases n with
    |zero=>cases c<;>rfl
    |succ n=>rfl
   |some A=>rfl
  |_=>rfl
 |any=>trivial
 |_=>rfl
theorem ao: ∀cs:List AV,wks cs cs
 |[]=>trivial
 |a::r=>⟨ez a,ao r⟩
 mutual
theorem aF: ∀a:AV,Lq a a
  | .agg cs=>by unfold Lq;exact ao cs
  | .gY cs=>by unfold Lq;exact Ia cs
  | .any=>ez .any
  | .v x=>ez (.v x)
  | .sl r xs=>ez (.sl r xs)
  | .gs r t xs=>ez (.gs r t xs)
  | .aX r cs o=>ez (.aX r cs o)
  | .ptr k o=>ez (.ptr k o)
  | .jB k n=>ez (.jB k n)
  | .dc k i o z=>ez (.dc k i o z)
  | .mp i=>ez (.mp i)
  | .rQ k=>ez (.rQ k)
  | .ar n z xs=>ez (.ar n z xs)
  | .fn f cs=>ez (.fn f cs)
  | .bm f cs=>ez (.bm f cs)
  | .nG r z xs=>ez (.nG r z xs)
theorem Ia: ∀a:List AV,Oo a a
  |[]=>trivial
  |a::r=>⟨aF a,Ia r⟩
end
theorem cq(hM:M= .ak){x:α}{c:List AV}(h:wks c (enc x))(hi:cw (enc x)=true):Qq [c] (M.map enc [x]):=
 ⟨[enc x],⟨⟨h,hi⟩,trivial⟩,by subst hM;rfl⟩
theorem bl0(hM:M= .ak):Qq [] (M.map enc []):=⟨[],trivial,by subst hM;rfl⟩
theorem xh(hM:M= .ak){l:List α}{cs:List (List AV)}(h:wkL cs (l.map enc)):Qq cs (M.map enc l):=⟨_,h,by subst hM;rfl⟩
end
theorem C3{L:pN}(hL:bG PP L)(hm:PP.follows .mixedOrders=true){f:Nat}{fn:Func}{c:Code}(hf:PP.funcs[f]? =some fn)(hb:fn.body=some c){args:List AV}{g:Nat→Option Ob}{nx:Nat}{r:AV}{g':Nat→Option Ob}{jf:Nat}(hr:cH r=true)
  (ρ:Nat)(sh:List Nat)(tree:Nat→Tree)(dead:Nat→List Nat)(op:List Nat)(cl:Nat→Bool){T:Nat→Option FI}(hT:bF PP cl T)(jY: ∀k,cl k=true→xb T k=false)(fuel:Nat)(hd:cD cl tree c=true)(n:Nat)(hn:fn.ntmps=n)(Ls:oZ args.length n=true){rs:List ResultVar}(Xn:fn.results.toList=rs){I:Pr}(hI:I=ak)
  (hk: ∀call:qH,Any PP call→rS (o7 {I:=I,L:=L,ρ:=ρ,sh:=sh,tree:=tree,call:=call,op:=op,dead:=dead,cl:=cl,keys:=mv,eqs:=uk} T fuel 0) c (init n args g nx) (post (o7 {I:=I,L:=L,ρ:=ρ,sh:=sh,tree:=tree,call:=call,op:=op,dead:=dead,cl:=cl,keys:=mv,eqs:=uk} T fuel 0) rs fun r1 g1 A7=>Lq r1 r∧g1=g'∧A7=jf)):lR PP f args g nx r g' jf:=
 (Yo hL hm hf hb ρ sh tree dead op cl KI RJ hT jY fuel hd n hn Ls Xn fun J call hJ hc _=>by rw[hJ,←hI];exact hk call hc).ao4 hr
theorem bk{W:St→(St→Prop)→Prop}{s:St}{Q:St→Prop}(vu:Option (List Fr))(vt:List (Nat×AV))(vb:List (Nat×Ob))(vg:Nat→Option Ob)(vn:Nat)
  (h1:W s (fun s1=>s1=sL s vu vt vb vg vn∨wk s1.clean (sL s vu vt vb vg vn)))(h2:Q (sL s vu vt vb vg vn).clean):adK W s Q:=⟨_,h1,_,rfl,h2⟩
def wQ(k:Nat)(fi:FI)(T:Nat→Option FI):Nat→Option FI:=fun j=>bif dy k j then some fi else T j
theorem bF.cons{P:Program}{cl:Nat→Bool}{k:Nat}{fi:FI}{T:Nat→Option FI}(h:mT P cl k fi)(hT:bF P cl T):bF P cl (wQ k fi T):=fun j fj hj=>by
 unfold wQ at hj;by_cases hk:k=j
 ·subst hk;rw[gA,az]at hj;cases hj;exact h
 ·rw[zX hk,aC]at hj;exact hT j fj hj
theorem cl0(cl:Nat→Bool): ∀k,cl k=true→xb (fun _=>none) k=false:=fun _ _=>rfl
theorem Ld{cl:Nat→Bool}{k:Nat}{fi:FI}{T:Nat→Option FI}(h:cl k=false)(hT: ∀k,cl k=true→xb T k=false): ∀j,cl j=true→xb (wQ k fi T) j=false:=fun j hj=>by
 have h2:=hT j hj
 unfold xb wQ at*;by_cases hk:k=j
 ·subst hk;rw[h]at hj;cases hj
 ·rw[zX hk,aC];exact h2
theorem nR{I:Pr}(hI:I=ak){A B:Prop}(h:B):(I.not true=true→A)∧(I.not true=false→B):=by subst hI;exact⟨fun h=>(by cases h),fun _=>h⟩
section
variable{α:Type}{M:Md}{I:Pr}{enc:α→List AV}
def fe(n:Nat)(l:List α):Option Unit:=if l.length=n then some ()else none
theorem aQ(hI:I=ak)(hM:M= .ak){n:Nat}{l:List α}{u:Unit}(h:fe n l=some u):I.fV (M.map enc l)=n:=by
 subst hI;subst hM;unfold fe at h
 split at h
 ·rename_i hl;show(List.map enc l).length=n;rw[List.length_map];exact hl
 ·cases h
theorem eR(hI:I=ak)(hM:M= .ak){n:Nat}{x:α}{l:List α}{cs:List AV}(hl:List.replicate n x=l)(h:cs=enc x):I.rep n cs=M.map enc l:=by
 subst hI;subst hM;subst h;subst hl;simp[ak,Md.ak]
theorem cg(hM:M= .ak)(h: ∀y,rC (enc y)=true)(l:List α):cR (M.map enc l)=true:=by
 subst hM;show cR (List.map enc l)=true
 induction l with
 |nil=>rfl
 |cons y r ih=>simp only[List.map_cons,cR,h,ih,Bool.and_true]
theorem akK(hM:M= .ak){l:List α}{n:Int}{x:α}{a:AV}(hx:gI l n=some x)(he:enc x=[a]):0≤n∧(M.map enc l)[n.toNat]? =some [a]:=by
 obtain⟨h1,h2,_⟩:=aq (enc:=enc) hM hx rfl;exact⟨h1,by rw[h2,he]⟩
theorem aL(hI:I=ak){m:Nat}{n:Int}{k:Nat}(hk:gN m n=some k):I.within n m∧I.nat n=k:=by
 subst hI;unfold gN at hk
 split at hk
 ·rename_i h;exact⟨h,o5 hk⟩
 ·cases hk
end
section
variable{κ β:Type}[DecidableEq κ]{M:Md}{I:Pr}
def GV(f:κ→List AV)(g:β→List AV)(x:κ×β):List AV:=f x.1++g x.2
def lA(l:List (κ×β))(k:κ)(d:β):β:=((l.find? fun e=>decide (e.1=k)).map (·.2)).getD d
def IG(l:List (κ×β))(k:κ)(v:β):Option (List (κ×β)):=if(l.find? fun e=>decide (e.1=k)).isSome then none else some (l++[(k,v)])
def NC(l:List (κ×List β))(k:κ):List (κ×List β)×Nat×List β:=match l.findIdx? fun e=>decide (e.1=k)with
 |some i=>(l,i,((l[i]?).map (·.2)).getD [])
 |none=>(l++[(k,[])],l.length,[])
def JU(l:List (κ×β))(i:Nat)(v:β):Option (List (κ×β)):=(l[i]?).map fun e=>l.set i (e.1,v)
variable{f:κ→List AV}{g:β→List AV}
theorem KG{k:κ}{n:Nat}(hn: ∀a,(f a).length=n)(x:κ×β):(GV f g x).take (f k).length=f x.1:=have _:=(inferInstance:DecidableEq κ);by
 unfold GV;rw[hn k,←hn x.1,List.take_left]
theorem zY{n:Nat}(hn: ∀a,(f a).length=n)(vc: ∀a b,f a=f b→a=b){l:List (κ×β)}{k:κ}(h:(l.find? fun e=>decide (e.1=k))=none):zE (l.map (GV f g)) (f k) none:=by
 intro row oE;obtain⟨x,hx,rfl⟩:=List.mem_map.1 oE;rw[KG hn];intro e;have:=List.find?_eq_none.1 h x hx
 simp[vc _ _ e]at this
theorem Gf{n:Nat}(hn: ∀a,(f a).length=n)(vc: ∀a b,f a=f b→a=b){l:List (κ×β)}{k:κ}{i:Nat}(h:(l.findIdx? fun e=>decide (e.1=k))=some i): ∃x,l[i]? =some x∧x.1=k∧(l.find? fun e=>decide (e.1=k))=some x∧zE (l.map (GV f g)) (f k) (some i):=by
 obtain⟨bc,h1,h2⟩:=List.findIdx?_eq_some_iff_getElem.1 h;have hk:l[i].1=k:=by simpa using h1
 refine⟨l[i],by simp[bc],hk,?_,GV f g l[i],by simp[bc],by rw[KG hn,hk],fun j SB hj hr=>?_⟩
 ·rw[List.find?_eq_some_iff_getElem];exact⟨h1,i,bc,rfl,fun j hj=>by have:=h2 j hj;simpa using this⟩
 ·rw[List.getElem?_map]at hr;have hjl:j<l.length:=by omega
  rw[eH hjl]at hr;cases hr;rw[KG hn];intro e;have:=h2 j hj
  simp[vc _ _ e]at this
theorem GK{l:List (κ×β)}{k:κ}:(l.findIdx? fun e=>decide (e.1=k))=none↔(l.find? fun e=>decide (e.1=k))=none:=by
 rw[List.findIdx?_eq_none_iff,List.find?_eq_none];constructor
 ·intro h x hx;simp[h x hx]
 ·intro h x hx;simpa using h x hx
theorem W7(hM:M= .ak){n:Nat}(hn: ∀a,(f a).length=n)(vc: ∀a b,f a=f b→a=b){av:β→AV}(hg: ∀y,g y=[av y]){l:List (κ×β)}{k:κ}{d x:β}{z:Value}(hx:lA l k d=x){kc:List AV}(hk:kc=f k)(hz:QM (.v z) (av d)):am9 (M.map (GV f g) l) kc (.v z) (av x):=by
 subst hM;subst hk;unfold lA at hx;cases hi:l.findIdx? fun e=>decide (e.1=k)with
 |none=>
  rw[GK.1 hi]at hx;simp at hx;subst hx;exact .inr ⟨zY hn vc (GK.1 hi),hz⟩
 |some i=>
  obtain⟨y,h1,h2,h3,h4⟩:=Gf (g:=g) hn vc hi;rw[h3]at hx;simp at hx;subst hx;refine .inl ⟨i,GV f g y,av y.2,h4,by show(l.map _)[i]? =_;rw[List.getElem?_map,h1];rfl,?_,ez _⟩;unfold GV;rw[hn k,←hn y.1,iY (Nat.le_refl _),Nat.sub_self,hg];rfl
theorem Rh(hI:I=ak)(hM:M= .ak){n:Nat}(hn: ∀a,(f a).length=n)(vc: ∀a b,f a=f b→a=b){l l':List (κ×β)}{k:κ}{v:β}(hx:IG l k v=some l'){kc:List AV}{va:AV}(hk:kc=f k)(hv:g v=[va]):zE (M.map (GV f g) l) kc none∧I.app (M.map (GV f g) l) [kc++[va]]=M.map (GV f g) l':=by
 subst hM;subst hI;subst hk;unfold IG at hx
 split at hx
 ·cases hx
 ·rename_i h;cases hx;refine⟨zY hn vc (Option.not_isSome_iff_eq_none.1 h),?_⟩;show _++_=List.map _ _;rw[List.map_append,←hv];rfl
theorem RM{C:ey}(hI:C.I=ak)(hM:M= .ak){n:Nat}(hn: ∀a,(f a).length=n)(vc: ∀a b,f a=f b→a=b){γ:Type}{en:γ→List AV}{l l':List (κ×List γ)}{k:κ}{i:Nat}{ys:List γ}(hx:NC l k=(l',i,ys)){kc:List AV}(hk:kc=f k){r0:Nat}:
  aoO C r0 (M.map (GV f fun y=>[AV.sl r0 (M.map en y)]) l) kc (M.map (GV f fun y=>[AV.sl r0 (M.map en y)]) l') i r0 (M.map en ys):=by
 subst hM;subst hk;unfold NC at hx;cases hi:l.findIdx? fun e=>decide (e.1=k)with
 |some j=>
  rw[hi]at hx;dsimp only at hx;injection hx with e1 e2;injection e2 with e2 e3;subst e1;subst e2;obtain⟨y,h1,h2,h3,h4⟩:=Gf (g:=fun y=>[AV.sl r0 (Md.ak.map en y)]) hn vc hi;rw[h1]at e3;simp at e3;subst e3;refine .inl ⟨h4,rfl,GV f (fun y=>[AV.sl r0 (Md.ak.map en y)]) y,by show(l.map _)[j]? =_;rw[List.getElem?_map,h1];rfl,?_⟩;unfold GV;rw[hn k,←hn y.1,iY (Nat.le_refl _),Nat.sub_self];rfl
 |none=>
  rw[hi]at hx;dsimp only at hx;injection hx with e1 e2;injection e2 with e2 e3;subst e1;subst e2;subst e3;refine .inr ⟨zY hn vc (GK.1 hi),?_,?_,rfl,rfl⟩
  ·rw[hI];show _++_=List.map _ _;rw[List.map_append];rfl
  ·rw[hI];show(List.map _ _).length=_;rw[List.length_map]
theorem RN{C:ey}(hI:C.I=ak)(hM:M= .ak){kz:Nat}(hn: ∀a,(f a).length=kz){γ:Type}{en:γ→List AV}{l l':List (κ×List γ)}{i:Nat}{ys:List γ}{r0:Nat}{z:Int}(hx:JU l i ys=some l'):
  aoQ C kz (M.map (GV f fun y=>[AV.sl r0 (M.map en y)]) l) i i z z r0 (M.map en ys) (M.map (GV f fun y=>[AV.sl r0 (M.map en y)]) l'):=have _:=(inferInstance:DecidableEq κ);by
 subst hM;unfold JU at hx;cases hl:l[i]? with
 |none=>rw[hl]at hx;cases hx
 |some e=>
  rw[hl]at hx;cases hx;refine⟨rfl,rfl,GV f (fun y=>[AV.sl r0 (Md.ak.map en y)]) e,by show(l.map _)[i]? =_;rw[List.getElem?_map,hl];rfl,?_⟩;rw[hI];show(l.map _).set i _=(l.set i _).map _;rw[List.map_set];congr 1;unfold GV bV;rw[←hn e.1,List.take_left];simp
theorem X7{x y:κ}{b:Bool}(hb:decide (x=y)=b){C:ey}{t:Nat}{ks:List VK}(hk:C.eqs t=some ks)(vc: ∀a b,f a=f b→a=b)(hf: ∀a,pj ks (f a)=true){cx cy:List AV}(hx:cx=f x)(hy:cy=f y):tI C t (.agg cx)∧tI C t (.agg cy)∧ajr (.agg cx) (.agg cy) b:=by
 subst hx;subst hy;subst hb;refine⟨?_,?_,f x,f y,rfl,rfl,?_⟩
 ·unfold tI;rw[hk];exact hf x
 ·unfold tI;rw[hk];exact hf y
 ·rw[decide_eq_true_eq];exact⟨fun e=>by rw[e],vc x y⟩
theorem CU: ∀{n:Nat} {l:List Int},l.length=n→pj (List.replicate n (.int .i64)) (l.map ax).flatten=true
 |0,[],_=>rfl
 |n+1,a::r,h=>by
  rw[List.replicate_succ];show(IntKind.i64==IntKind.i64&&pj _ (r.map ax).flatten)=true;rw[CU (by simpa using h)];rfl
theorem M7: ∀{l m:List Int},(l.map ax).flatten=(m.map ax).flatten→l=m
 |[],[],_=>rfl
 |a::r,b::q,h=>by
  have:AV.v (.int .i64 a)::(r.map ax).flatten=AV.v (.int .i64 b)::(q.map ax).flatten:=h
  injection this with h1 h2;injection h1 with h1;injection h1 with _ h1;rw[h1,M7 h2]
 |[],b::q,h=>by simp[ax]at h
 |a::r,[],h=>by simp[ax]at h
theorem X4(hM:M= .ak){n:Nat}{l k:List Int}{b:Bool}{u w:Unit}(hl:fe n l=some u)(kR:fe n k=some w)(hb:decide (l=k)=b){C:ey}{t:Nat}(hk:C.eqs t=some (List.replicate n (.int .i64))):tI C t (.ar n 1 (M.map ax l))∧tI C t (.ar n 1 (M.map ax k))∧ajr (.ar n 1 (M.map ax l)) (.ar n 1 (M.map ax k)) b:=by
 subst hM;subst hb;have h1:l.length=n:=by unfold fe at hl;split at hl;assumption;cases hl
 have h2:k.length=n:=by unfold fe at kR;split at kR;assumption;cases kR
 refine⟨?_,?_,_,_,rfl,rfl,?_⟩
 ·unfold tI;rw[hk];exact CU h1
 ·unfold tI;rw[hk];exact CU h2
 ·rw[decide_eq_true_eq];exact⟨fun e=>by rw[e],M7⟩
end
theorem GW(a b:Int)(h:ax a=ax b):a=b:=by
 injection h with h _;injection h with h;injection h
section
variable{α:Type}{M:Md}{I:Pr}{enc:α→List AV}
theorem tQ{C:ey}(hI:C.I=ak)(hM:M= .ak){l l':List α}{k off r:Nat}{x y:α}{ys:List (List AV)}(hy:gK l k=some y)(hx:gD l k x=some l')(ho:off<(enc y).length)(he:bV (enc y) off [.sl r ys]=enc x):apm C (M.map enc l) k k off off r ys (M.map enc l'):=by
 subst hM;unfold gD at hx
 split at hx
 ·cases hx;refine⟨rfl,rfl,enc y,?_,ho,?_⟩
  ·show(List.map enc l)[k]? =_;rw[List.getElem?_map];unfold gK at hy;rw[hy];rfl
  ·rw[hI,he];show(List.map enc l).set k (enc x)=_;rw[←List.map_set];rfl
 ·cases hx
end
section
variable{α:Type}{M:Md}{I:Pr}{enc:α→List AV}
def kO(n:Nat)(ys xs:List α):List α:=ys.take (min ys.length n)++xs.drop (min ys.length n)
def oY(n:Nat)(ys:List α):Int:=((min ys.length n:Nat):Int)
theorem iK(hI:I=ak)(hM:M= .ak){ti:TI}{z:Nat}{n:Nat}{xs ys l:List α}{j:Int}(hl:kO n ys xs=l)(hj:oY n ys=j)(hz:z=ti.size)(ho: ∀y,rC (enc y)=true)(he: ∀y,(enc y).length=ti.size):
  aoX I ti z n (M.map enc xs) (M.map enc ys) (M.map enc l) j:=by
 subst hI;subst hM;subst hl;subst hj;refine⟨hz,cg rfl ho ys,fun c hc=>?_,?_,?_⟩
 ·obtain⟨y,_,rfl⟩:=List.mem_map.1 hc;exact he y
 ·simp only[ak,Md.ak,List.length_map,oY];split<;>omega
 ·simp only[ak,Md.ak,kO,oY,List.length_map];simp[List.map_take,List.map_drop];rw[List.take_of_length_le (l:=List.map enc xs) (by simp)]
theorem tP(hI:I=ak)(hM:M= .ak){z n:Nat}{cs:List AV}{l:List α}(h:chunks z n cs=l.map enc):I.chunk z n cs=M.map enc l:=by subst hI;subst hM;exact h
end
section
variable{α:Type}{M:Md}{I:Pr}{enc:α→List AV}
theorem RV{c:List AV}(h:cw c=true):Qq [c] [c]:=⟨[c],⟨⟨ao c,h⟩,trivial⟩,rfl⟩
theorem sg(hI:I=ak){b:Nat}{x:α}{l:List α}(h:aP b [] x=some l):I.room 0 1 b:=by
 subst hI;unfold aP at h
 split at h
 ·rename_i hr;simpa[ak]using hr
 ·cases h
theorem zT(hI:I=ak)(hM:M= .ak){b:Nat}{x:α}{l:List α}{row:List AV}(h:aP b [] x=some l)(he:row=enc x):[row]=M.map enc l∧I.fV (M.map enc l)=M.ln l:=by
 subst hI;subst hM;subst he;unfold aP at h
 split at h
 ·cases h;exact⟨rfl,rfl⟩
 ·cases h
theorem F5{C:ey}(hI:C.I=ak)(hM:M= .ak){b r:Nat}{x:α}{l l':List α}{row:List AV}(h:aP b l x=some l')(he:row=enc x):goO r (M.ln l) b (M.map enc l) row C (M.map enc l') (M.ln l'):=by
 subst hM;subst he;unfold aP at h
 split at h
 ·rename_i hr;cases h;refine⟨?_,?_,?_,?_⟩
  ·rw[hI];exact hr
  ·rw[hI];simp[ak,Md.ak]
  ·rw[hI];simp[ak,Md.ak]
  ·rw[hI];simp[ak,Md.ak]
 ·cases h
end
section
variable{α:Type}{M:Md}{I:Pr}{enc:α→List AV}
theorem Li(hM:M= .ak){l:List α}{n:Int}{x:α}(hx:gI l n=some x):0≤n∧(M.map enc l)[n.toNat]? =some (enc x):=
 let⟨h1,h2,_⟩:=aq (enc:=enc) hM hx rfl;⟨h1,h2⟩
def Rr:List (List AV)→Bool
 |[]=>true
 |a::r=>cw a&&Rr r
theorem LN: ∀{xs:List (List AV)},Rr xs=true→wkL xs xs
 |[],_=>trivial
 |a::r,h=>by simp only[Rr,Bool.and_eq_true]at h;exact⟨⟨ao a,h.1⟩,LN h.2⟩
theorem blL{xs:List (List AV)}(h:Rr xs=true):Qq xs xs:=⟨xs,LN h,rfl⟩
def FJ(z:Nat):List (List AV)→Bool
 |[]=>true
 |a::r=>dy a.length z&&FJ z r
theorem zN{z:Nat}: ∀{xs:List (List AV)},FJ z xs=true→ ∀l∈xs,l.length=z
 |[],_,l,hl=>by simp at hl
 |a::r,h,l,hl=>by
  simp only[FJ,Bool.and_eq_true]at h;rcases List.mem_cons.1 hl with rfl|hl
  ·exact dK h.1
  ·exact zN h.2 l hl
def ad7(ti:TI)(xs ys:List (List AV)):Bool:=(oZ ((xs.length+ys.length)*ti.bytes) 70368744177664&&oZ (xs.length+ys.length) 70368744177664)&&((oZ 1 ti.size&&cR ys)&&(FJ ti.size ys&&FJ ti.size xs))
theorem apL{C:ey}(hI:C.I=ak){ti:TI}{xs ys zs:List (List AV)}(h:ad7 ti xs ys=true)(hz:xs++ys=zs):YB C ti xs ys zs:=by
 simp only[ad7,Bool.and_eq_true,Af]at h;obtain⟨⟨h1,h2⟩,⟨h3,h4⟩,h5,h6⟩:=h;refine⟨⟨?_,by rw[Af];exact h3,h4,zN h5⟩,zN h6,?_⟩
 ·rw[hI];exact⟨h1,h2⟩
 ·rw[hI];exact hz
theorem ad6(hI:I=ak){xs:List (List AV)}{n:Nat}(h:xs.length=n):Int.ofNat (I.fV xs)=(n:Int):=by subst hI;subst h;rfl
theorem pQ{x:Bool}{A B:Prop}(hx:x=true)(h:A):(x=true→A)∧(x=false→B):=⟨fun _=>h,fun e=>by rw[hx]at e;cases e⟩
theorem jR{x:Bool}{A B:Prop}(hx:x=false)(h:B):(x=true→A)∧(x=false→B):=⟨fun e=>(by rw[hx]at e;cases e),fun _=>h⟩
theorem ub(hI:I=ak){a b:Int}(h:decide (a<b)=true):I.bf a b=true:=by subst hI;exact h
theorem oD(hI:I=ak){a b:Int}(h:decide (a<b)=false):I.bf a b=false:=by subst hI;exact h
theorem aia(hI:I=ak){a b c:Int}(h:IntKind.wrap .i64 (a+b)=c):AV.v (.int .i64 (I.wrap .i64 (I.add a b)))=AV.v (.int .i64 c):=by subst hI;subst h;rfl
theorem OE{W:St→(Ex→St→Prop)→Prop}{s:St}{Q:Ex→St→Prop}{N:Nat}(vd:List Nat)(vu:Option (List Fr))(vt:List (Nat×AV))(vb:List (Nat×Ob))(vg:Nat→Option Ob)(vn:Nat)(hk:wk s (sK s vd vu vt vb vg vn))
  (h: ∀R:St→Prop,(∀s',rV W N s' Q→R s')→W (sK s vd vu vt vb vg vn) (OO R Q)):rV W (N+1) s Q:= .inr ⟨_,hk,h _ fun _ hs=>hs⟩
end
end Ab
namespace Ab
open Go
set_option maxHeartbeats 100000000
set_option maxRecDepth 100000
structure aD where
 kind:Int
 name:ByteArray
 num:Int
 args:List Int
 deriving DecidableEq
instance:Inhabited aD:=⟨⟨0,⟨#[]⟩,0,[]⟩⟩
structure ag where
 head:ByteArray
 aM:Int
 ops:List aD
 result:Int
 deriving DecidableEq
instance:Inhabited ag:=⟨⟨⟨#[]⟩,0,[],0⟩⟩
structure aj where
 name:ByteArray
 aI:Int
 ae:List ag
 deriving DecidableEq
instance:Inhabited aj:=⟨⟨⟨#[]⟩,0,[]⟩⟩
structure ai where
 af:List aj
 deriving DecidableEq
instance:Inhabited ai:=⟨⟨[]⟩⟩
structure aV where
 kind:Int
 name:ByteArray
 num:Int
 deriving DecidableEq
instance:Inhabited aV:=⟨⟨0,⟨#[]⟩,0⟩⟩
def bu(M:Md)(r:Nat)(x:aD):List AV:=[(vi x.kind),(vs x.name),(vi x.num),(.sl r (M.map ax x.args))]
def aB(M:Md)(r:Nat)(x:ag):List AV:=[(vs x.head),(vi x.aM),(.sl r (M.map (bu M r) x.ops)),(vi x.result)]
def aA(M:Md)(r:Nat)(x:aj):List AV:=[(vs x.name),(vi x.aI),(.sl r (M.map (aB M r) x.ae))]
def bd(M:Md)(r:Nat)(x:ai):List AV:=[(.sl r (M.map (aA M r) x.af))]
def cf(M:Md)(r:Nat)(x:aV):List AV:=[(vi x.kind),(vs x.name),(vi x.num)]
theorem dT(M:Md)(r:Nat)(a b:aV)(h:cf M r a=cf M r b):a=b:=by
 cases a;cases b;simp only[cf,List.cons.injEq,vi,vs,vb,AV.v.injEq,Value.int.injEq,Value.string.injEq,Value.bool.injEq,true_and,and_true]at h;simp[h]
end Ab
namespace Ab
open Go
variable{P:Program}{E E':Env}{w w':World}
def EA(a:AV):Prop:= ∀r,1000000≤r→uu r a
def Env.qW(E:Env):Env:={E with eo:=fun b=>if E.eo b<1000000 then E.eo b else 0}
theorem J0{q:Nat}(h: ∀r,1000000≤r→q≠r):q<1000000:=by
 rcases Nat.lt_or_ge q 1000000 with h1|h1
 ·exact h1
 ·exact absurd rfl (h q h1)
theorem Cj{E:Env}{b q:Nat}(h:E.eo b=q)(hq:q<1000000):E.qW.eo b=q:=by
 show(if E.eo b<1000000 then E.eo b else 0)=q;rw[if_pos (by omega),h]
theorem Cz.qW{av:AV}{x:Value}(h:Cz E av x):EA av→Cz E.qW av x:=by
 have sub: ∀{cs:List AV} {q:Nat} {a:AV},(∀r,1000000≤r→DF r cs)→cs[q]? =some a→EA a:=fun h hq r hr=>pV (h r hr) _ _ hq
 have agj: ∀{xs:List (List AV)} {q:Nat} {a:AV},(∀r,1000000≤r→pA r xs)→xs.flatten[q]? =some a→EA a:=fun h hq r hr=>mn (h r hr) _ _ hq
 induction h with
 |any x=>exact fun _=> .any _
 |v x=>exact fun _=> .v _
 |pd q A c=>exact fun _=> .pd _ _ _
 |sl q xs z b o c u hp hc hm ew hz hr hi hs hu hq ih=>
  intro hn;simp only[EA,uu]at hn;exact .sl q xs z b o c u hp hc hm ew hz (Cj hr (J0 fun r h=>(hn r h).1)) hi hs hu fun i a ha=>ih i a ha (agj (fun r h=>(hn r h).2) ha)
 |vk q t=>exact fun _=> .vk _ _
 |gs q t xs z b c e cells u hc hm h0 ew hz hr hb ef ho gZ hi hu hq ih=>
  intro hn;simp only[EA,uu]at hn;exact .gs q t xs z b c e cells u hc hm h0 ew hz (Cj hr (J0 fun r h=>(hn r h).1)) hb ef ho gZ hi hu fun i a ha=>ih i a ha (agj (fun r h=>(hn r h).2) ha)
 |aX q cs off b o u hr hi hs hu hq ih=>
  intro hn;simp only[EA,uu]at hn;exact .aX q cs off b o u (fun i a ha=>Cj (hr i a ha) (J0 fun r h=>(hn r h).1)) hi hs hu fun i a ha=>ih i a ha (sub (fun r h=>(hn r h).2) ha)
 |ptr k' off hl=>exact fun _=>Cz.ptr (E:=E.qW) k' off hl
 |jB k' n hl hn hc hm=>exact fun _=>Cz.jB (E:=E.qW) k' n hl hn hc hm
 |dc k' i off z hl=>exact fun _=>Cz.dc (E:=E.qW) k' i off z hl
 |mp k' hl=>exact fun _=>Cz.mp (E:=E.qW) k' hl
 |rQ k' hl=>exact fun _=>Cz.rQ (E:=E.qW) k' hl
 |ar n z xs ys hn hz hl hi hq ih=>intro h;simp only[EA,uu]at h;exact .ar n z xs ys hn hz hl hi fun q a y ha hy=>ih q a y ha hy (agj h ha)
 |fn f cs ys hl hq ih=>intro h;simp only[EA,uu]at h;exact .fn f cs ys hl fun q a y ha hy=>ih q a y ha hy (sub h ha)
 |bm f cs ys hl hi hq ih=>intro h;simp only[EA,uu]at h;exact .bm f cs ys hl hi fun q a y ha hy=>ih q a y ha hy (sub h ha)
 |nG q z xs x hz h ih=>
  intro hn;simp only[EA,uu]at hn;refine .nG q z xs x hz (ih fun r hr=>?_);simp only[uu];exact⟨(hn r hr).1,Py fun a ha=>by obtain⟨i,hi⟩:=List.getElem?_of_mem ha;exact mn (hn r hr).2 i a hi⟩
 |agg cs ys hl hq ih=>intro h;simp only[EA,uu]at h;exact .agg cs ys hl fun q a y ha hy=>ih q a y ha hy (sub h ha)
 |gY cs ys hl hq ih=>intro h;simp only[EA,uu]at h;exact .gY cs ys hl fun q a y ha hy=>ih q a y ha hy (sub h ha)
def aeM(args:List AV):Prop:= ∀r,1000000≤r→DF r args
theorem Ga{g:Nat→Option Ob}{nx:Nat}(hG:yn E w g nx): ∀i,g i=none:=fun i=>by
 cases h:g i with
 |none=>rfl
 |some ob=>
  exfalso;have h1:=hG.gx i ob h
  have key:E.own (E.m (.o i))= .key (.o i):=by
   cases ob with
   |box cs=>exact h1.2.choose_spec.choose_spec.2.1
   |arr z xs=>obtain⟨_,_,_,_,_,c,e,_,h2,_⟩:=h1;exact h2
   |ow p l xs=>exact h1.2.1
   |lp n t ps pH body st=>exact h1.2.1
  have:=hG.ng (E.m (.o i))
  rw[key]at this;exact this rfl
theorem wK.lift{f:Nat}{args:List AV}{v:Value}(h: ∀(g:Nat→Option Ob),(∀i,g i=none)→ ∀nx,wK P true f args g nx fun r1 g1 A7=>Lq r1 (.v v)∧g1=g∧A7=nx)(Xx:aeM args)(g:Nat→Option Ob)(nx:Nat):
  lR P f args g nx (.v v) g nx:=by
 intro hi E w vs hG hl hv;have hg:=Ga hG
 have hG1:yn E.qW w g nx:=⟨hG.heap,⟨hG.wf.aR,hG.wf.own,fun b o _ hr=>by
  exfalso;have hr:1000000≤(if E.eo b<1000000 then E.eo b else 0):=hr
  split at hr<;>omega⟩,hG.nl,hG.gl,hG.own,hG.gk,fun i ob hh=>(by rw[hg i]at hh;cases hh),hG.ng⟩
 refine(h g hg nx hi E.qW w vs hG1 (fun _ b o _=>by show(if E.eo b<1000000 then E.eo b else 0)<1000000;split<;>omega) hl fun q a y ha hy=>(hv q a y ha hy).qW fun r hr=>pV (Xx r hr) q a ha).mono ?_
 rintro e w' ⟨r,g',jf,x,E1,⟨e1,e2,e3⟩,e4,Lu,hE,hS,hc,hir,Np⟩
 subst e2;subst e3;have hx:Cz E1 (.v v) x:=yx e1 hc
 have hx:=bX hx
 subst hx;refine⟨x,{E1 with eo:=fun b=>if b<E.h.size then E.eo b else E1.eo b},e4,⟨Lu.heap,⟨Lu.wf.aR,Lu.wf.own,fun b o hs hr=>?_⟩,Lu.nl,Lu.gl,Lu.own,Lu.gk,fun i ob hh=>(by rw[hg i]at hh;cases hh),Lu.ng⟩,⟨hE.size,fun b o hs=>⟨(hE.aR b o hs).1,(hE.aR b o hs).2.1,by show(if b<E.h.size then E.eo b else E1.eo b)=E.eo b;rw[if_pos (hG.wf.aR b o hs)]⟩,hE.live,fun b hb hn=>?_⟩,hS,.v _,rfl,Np⟩
 ·have hr:1000000≤(if b<E.h.size then E.eo b else E1.eo b):=hr
  by_cases hb:b<E.h.size
  ·rw[if_pos hb]at hr;have hk:=hE.bH b hb (hG.ng b)
   obtain⟨c,e,h1⟩:=hG.wf.fz b o ((hk.2.2.1 o).1 hs) hr;exact⟨c,e,hk.2.1.trans h1⟩
  ·rw[if_neg hb]at hr;exact Lu.wf.fz b o hs hr
 ·have hk:=hE.bH b hb hn
  exact⟨hk.1,hk.2.1,hk.2.2.1,by show(if b<E.h.size then E.eo b else E1.eo b)=E.eo b;rw[if_pos hb]⟩
theorem Qk{L:pN}(hL:bG PP L)(hm:PP.follows .mixedOrders=true){f:Nat}{fn:Func}{c:Code}(hf:PP.funcs[f]? =some fn)(hb:fn.body=some c){args:List AV}{g:Nat→Option Ob}{nx:Nat}{r:AV}{g':Nat→Option Ob}{jf:Nat}
  (ρ:Nat)(sh:List Nat)(tree:Nat→Tree)(dead:Nat→List Nat)(op:List Nat)(cl:Nat→Bool){T:Nat→Option FI}(hT:bF PP cl T)(jY: ∀k,cl k=true→xb T k=false)(fuel:Nat)(hd:cD cl tree c=true)(n:Nat)(hn:fn.ntmps=n)(Ls:oZ args.length n=true){rs:List ResultVar}(Xn:fn.results.toList=rs){I:Pr}(hI:I=ak)
  (hk: ∀call:qH,Any PP call→rS (o7 {I:=I,L:=L,ρ:=ρ,sh:=sh,tree:=tree,call:=call,op:=op,dead:=dead,cl:=cl,keys:=mv,eqs:=uk} T fuel 0) c (init n args g nx true) (post (o7 {I:=I,L:=L,ρ:=ρ,sh:=sh,tree:=tree,call:=call,op:=op,dead:=dead,cl:=cl,keys:=mv,eqs:=uk} T fuel 0) rs fun r1 g1 A7=>Lq r1 r∧g1=g'∧A7=jf)):wK PP true f args g nx fun r1 g1 A7=>Lq r1 r∧g1=g'∧A7=jf:=
 TQ hL hm hf hb true ρ sh tree dead op cl KI RJ hT jY fuel hd n hn Ls Xn fun J call hJ hc _=>by rw[hJ,←hI];exact hk call hc
section
variable{I:Pr}(hI:I=ak){M:Md}(hM:M= .ak)
 include hM
theorem MH{r:Nat}(l:List Int):pA r (M.map ax l):=by
 subst hM;exact Ba fun x hx=>by
  obtain⟨z,_,rfl⟩:=List.mem_map.1 hx;simp[ax,vi,DF,uu]
theorem aaZ{r q:Nat}(h:q≠r)(l:List aD):pA r (M.map (bu M q) l):=by
 have h1: ∀o:aD,DF r (bu M q o):=fun o=>by
  unfold bu;simp only[DF,uu,vi,vs,and_true,true_and];exact⟨h,MH hM _⟩
 subst hM;exact Ba fun x hx=>by
  obtain⟨z,_,rfl⟩:=List.mem_map.1 hx;exact h1 z
theorem Ks{r q:Nat}(h:q≠r)(l:List ag):pA r (M.map (aB M q) l):=by
 have h1: ∀o:ag,DF r (aB M q o):=fun o=>by
  unfold aB;simp only[DF,uu,vi,vs,and_true,true_and];exact⟨h,aaZ hM h _⟩
 subst hM;exact Ba fun x hx=>by
  obtain⟨z,_,rfl⟩:=List.mem_map.1 hx;exact h1 z
theorem vY{r q:Nat}(h:q≠r)(l:List aj):pA r (M.map (aA M q) l):=by
 have h1: ∀o:aj,DF r (aA M q o):=fun o=>by
  unfold aA;simp only[DF,uu,vi,vs,and_true,true_and];exact⟨h,Ks hM h _⟩
 subst hM;exact Ba fun x hx=>by
  obtain⟨z,_,rfl⟩:=List.mem_map.1 hx;exact h1 z
theorem Yn{r:Nat}(l:List aj):RR (.agg [.sl r (M.map (aA M r) l)]):=by
 subst hM;refine⟨r,_,rfl,_,rfl,fun x hx=>?_⟩;obtain⟨b,_,rfl⟩:=List.mem_map.1 hx;refine⟨b.name,b.aI,_,rfl,_,rfl,fun x hx=>?_⟩;obtain⟨c,_,rfl⟩:=List.mem_map.1 hx;refine⟨c.head,c.aM,_,c.result,rfl,_,rfl,fun x hx=>?_⟩;obtain⟨o,_,rfl⟩:=List.mem_map.1 hx;refine⟨o.kind,o.name,o.num,_,rfl,_,rfl,fun x hx=>?_⟩;obtain⟨z,_,rfl⟩:=List.mem_map.1 hx;exact⟨z,rfl⟩
 include hI
theorem Cy{r q:Nat}(h:dy q r=false)(l:List aj):I.nr r (M.map (aA M q) l):=by
 have:=vY hM (r:=r) (q:=q) (fun e=>by subst e;simp at h) l
 subst hI;exact this
theorem Kt{r:Nat}(l:List Int):I.nr r (M.map ax l):=by
 have:=MH hM (r:=r) l
 subst hI;exact this
end
theorem Px{I:Pr}(hI:I=ak){r:Nat}{xs:List (List AV)}(h:pA r xs):I.nr r xs:=by subst hI;exact h
end Ab
namespace Ab
open Go
variable{P:Program}{W:World}{H:Type}{enc:TypeId×Value→H}{spare:Nat→Bool}
def sA(W:World):Env:={h:=W.heap,aR:=fun b o=> ∃v,aW W.heap b o=some v,eo:=fun _=>0,m:=fun _=>0,live:=fun _=>False,len:=fun _=>(0,0),own:=fun _=> .WR}
theorem TF(W:World):yn (sA W) W (fun _=>none) 0:=by
 refine⟨rfl,⟨fun b o h=>?_,fun b h=>absurd rfl h,fun b o _ h=>?_⟩,fun d h=>h,fun i=>⟨fun h=>h.elim,fun h=>absurd h (Nat.not_lt_zero _)⟩,fun b=>rfl,fun i ob h=>(by cases h),fun i ob h=>(by cases h),fun b h=>(by cases h)⟩
 ·obtain⟨v,hv⟩:=h;have hv:aW W.heap b o=some v:=hv
  unfold aW at hv;cases hb:W.heap[b]? with
  |none=>rw[hb]at hv;cases hv
  |some x=>exact(Array.getElem?_eq_some_iff.1 hb).1
 ·have h:1000000≤0:=h
  omega
def YE(W:World)(l:List AV)(cs:List Value):Prop:=cs.length=l.length∧ ∀(q:Nat) (a:AV) (v:Value),l[q]? =some a→cs[q]? =some v→Cz (sA W) a v
theorem PC{β:Type}{f:Nat→Option β}{n:Nat}{l:List β}(h:(List.range n).mapM f=some l):l.length=n∧ ∀i,i<n→f i=l[i]? :=
 ⟨by simpa using mapM_some_length h,fun i hi=>mapM_some_get h i i (by simp[hi])⟩
theorem ET{α:Type}{eA:α→List AV}{e t z:Nat}(ht:P.underlying t=some (.slice e))(hz:P.cellsOf e=z)(h0:0<z)(hlen: ∀x,(eA x).length=z)(ai7: ∀x,cw (eA x)=true)
  (he: ∀(n:Nat) (cs:List Value) (y:DataW H×List MemPlace),DataW.trod enc P W 0 spare true n e cs=some y→ ∃x:α,YE W (eA x) cs)
  {n:Nat}{cs:List Value}{y:DataW H×List MemPlace}(h:DataW.trod enc P W 0 spare true n t cs=some y): ∃(l:List α) (v:Value),cs=[v]∧Cz (sA W) (.sl 0 (l.map eA)) v:=by
 rcases DataW.trod_slice ht h with⟨rfl,_⟩|⟨a,len,cap,elems,rest,m,_,rfl,_,_,hlc,hcm,ux,za,_⟩
 ·exact⟨[],_,rfl,.pd _ _ _⟩
 rw[hz]at za;cases len with
 |zero=>exact⟨[],_,rfl,.pd _ _ _⟩
 |succ len=>
 have row: ∀i,i<len+1→ ∃(x:α) (cs:List Value),YE W (eA x) cs∧cs.length=z∧ ∀q,q<z→W.cell? ((a.add (i*z)).add q)=cs[q]? :=fun i hi=>by
  have hg:=za i hi
  have bc:i<elems.length:=by omega
  rw[eH bc]at hg;obtain⟨cs,h1,h2⟩:=Option.bind_eq_some_iff.1 hg;obtain⟨x,hx⟩:=he _ _ _ h2;unfold World.cells? at h1
  split at h1
  ·obtain⟨h3,h4⟩:=PC h1;exact⟨x,cs,hx,h3,h4⟩
  ·cases h1
 obtain⟨x0,cs0,hx0,P5,hc0⟩:=row 0 (by omega);have ael:a.spot=none:=by
  have h1:=hc0 0 h0
  rw[Nat.zero_mul,eH (by omega)]at h1;have h2:W.cell? a=some cs0[0]:=by simpa[Addr.add]using h1
  unfold World.cell? at h2
  split at h2
  ·split at h2
   ·cases h2
   ·rename_i h3;simpa using h3
  ·cases h2
 obtain⟨b,o,sp⟩:=a;dsimp only at ael;subst ael;have rows: ∀k,k≤len+1→ ∃l:List α,l.length=k∧ ∀i x,l[i]? =some x→ ∀q a,(eA x)[q]? =some a→ ∃v,aW W.heap b (o+(i*z+q))=some v∧Cz (sA W) a v:=by
  intro k
  induction k with
  |zero=>intro _;exact⟨[],rfl,fun i x h=>by simp at h⟩
  |succ k ih=>
   intro hk;obtain⟨l,h1,h2⟩:=ih (by omega);obtain⟨x,cs,hx,jY,hc⟩:=row k (by omega);refine⟨l++[x],by simp[h1],fun i x' hi q a ha=>?_⟩;by_cases bc:i<k
   ·rw[gg (by omega)]at hi;exact h2 i x' hi q a ha
   ·have:i=k:=by have:=(bq.1 hi).1;simp at this;omega
    subst this;rw[iY (by omega)]at hi;simp[h1]at hi;subst hi;have hq:q<z:=by rw[←hlen x];exact(bq.1 ha).1
    have h3:=hc q hq
    rw[eG,eG,eH (by omega),kP]at h3;refine⟨_,by rw[←Nat.add_assoc];exact h3,hx.2 q a _ ha (eH _)⟩
 obtain⟨l,hl,hq⟩:=rows (len+1) (Nat.le_refl _);refine⟨l,_,rfl,?_⟩;have key: ∀q a,(l.map eA).flatten[q]? =some a→ ∃v,aW W.heap b (o+q)=some v∧Cz (sA W) a v:=fun q a ha=>by
  have hD:(l.map eA).flatten.length=l.length*z:=by rw[aH (z:=z) (fun x hx=>by obtain⟨y,_,rfl⟩:=List.mem_map.1 hx;exact hlen y)];simp
  have atW:q<l.length*z:=by rw[←hD];exact(bq.1 ha).1
  have hi:q / z<l.length:=(Nat.div_lt_iff_lt_mul h0).2 atW
  have hm:=Nat.mod_lt q h0
  have oE:(l.map eA)[q / z]? =some (eA l[q / z]):=by simp[hi]
  have hf:=eF (z:=z) (xs:=l.map eA) (i:=q / z) (fun x hx=>by obtain⟨y,_,rfl⟩:=List.mem_map.1 hx;exact hlen y) oE (q % z) hm
  rw[Nat.div_add_mod' q z]at hf;rw[hf]at ha;have:=hq (q / z) l[q / z] (eH hi) (q % z) a ha
  rwa [Nat.div_add_mod' q z]at this
 have HM:(l.map eA).length=len+1:=by simp[hl]
 have hc:=Cz.sl (E:=sA W) 0 (l.map eA) z b o cap (fun q=>(aW W.heap b (o+q)).getD undef) (by rw[HM];omega) (by rw[HM];exact hlc) hcm h0 (fun x hx=>by obtain⟨y,_,rfl⟩:=List.mem_map.1 hx;exact hlen y) rfl
  (fun q a ha=>by
   obtain⟨i,hi⟩: ∃x∈l,a∈eA x:=by
    have:=fU ha
    obtain⟨r,hr,Aj⟩:=List.mem_flatten.1 this;obtain⟨x,hx,rfl⟩:=List.mem_map.1 hr;exact⟨x,hx,Aj⟩
   obtain⟨j,hj⟩:=List.getElem?_of_mem hi.2;exact bD (ai7 i) j a hj)
  (fun q a ha=>by obtain⟨v,hv,_⟩:=key q a ha;exact⟨v,hv⟩) (fun q a ha=>by obtain⟨v,hv,_⟩:=key q a ha;show aW W.heap b (o+q)=_;rw[hv];rfl) (fun q a ha=>by obtain⟨v,hv,hc⟩:=key q a ha;rw[hv];exact hc)
 rw[HM]at hc;exact hc
set_option maxRecDepth 100000
open Go.Proofs
theorem open_int{n:Nat}{cs:List Value}{y:DataW H×List MemPlace}(h:DataW.trod enc PP W 0 spare true n 3 cs=some y): ∃z:Int,cs=[.int .i64 z]:=by
 obtain⟨z,h1,_⟩:=DataW.trod_int Tryz.underlying3 h;exact⟨z,h1⟩
theorem F6{n:Nat}{cs:List Value}{y:DataW H×List MemPlace}(h:DataW.trod enc PP W 0 spare true n 9 cs=some y): ∃s:ByteArray,cs=[.string s]:=by
 obtain⟨z,h1,_⟩:=DataW.trod_string Tryz.underlying9 h;exact⟨z,h1⟩
theorem TS:PP.cellsOf 3=1:=by kernel_rfl
theorem akA:PP.cellsOf 9=1:=by kernel_rfl
theorem ao1:PP.cellsOf 30=1:=by kernel_rfl
theorem aoZ:PP.cellsOf 59=1:=by kernel_rfl
theorem ao0:PP.cellsOf 55=1:=by kernel_rfl
theorem ao3:PP.cellsOf 22=1:=by kernel_rfl
theorem aeG:PP.cellsOf 64=4:=by kernel_rfl
theorem aeH:PP.cellsOf 61=4:=by kernel_rfl
theorem aeI:PP.cellsOf 57=3:=by kernel_rfl
theorem ao2:PP.cellsOf 24=1:=by kernel_rfl
theorem Uo{fs:Array Field}{cs:List Value}{m:Nat}{xs:List (DataW H×List MemPlace)}(hf: ∀(i:Nat) (f:Field),fs[i]? =some f→DataW.trod enc PP W 0 spare true m f.type ((cs.drop f.offset).take (PP.cellsOf f.type))=xs[i]?)
  {i t o k:Nat}{f:Field}{x:DataW H×List MemPlace}(h:fs[i]? =some f)(ht:f.type=t)(ho:f.offset=o)(hc:PP.cellsOf t=k)(hx:xs[i]? =some x):DataW.trod enc PP W 0 spare true m t ((cs.drop o).take k)=some x:=by
 have:=hf i f h
 rw[ht,ho,hc,hx]at this;exact this
theorem aaX{n:Nat}{cs:List Value}{y:DataW H×List MemPlace}(h:DataW.trod enc PP W 0 spare true n 64 cs=some y): ∃x:aD,YE W (bu .ak 0 x) cs:=by
 obtain⟨xs,m,_,_,hl,hn,hf⟩:=DataW.trod_struct Tryz.underlying64 h;rw[aeG]at hl
 match cs,hl with
 |[a,b,c,d],_=>
  match xs,hn with
  |[x0,x1,x2,x3],_=>
   have f0:=Uo hf (i:=0) (t:=3) (o:=0) rfl rfl rfl TS rfl
   have f1:=Uo hf (i:=1) (t:=9) (o:=1) rfl rfl rfl akA rfl
   have f2:=Uo hf (i:=2) (t:=3) (o:=2) rfl rfl rfl TS rfl
   have f3:=Uo hf (i:=3) (t:=30) (o:=3) rfl rfl rfl ao1 rfl
   obtain⟨k,e0⟩:=open_int f0;obtain⟨s,e1⟩:=F6 f1;obtain⟨z,e2⟩:=open_int f2;obtain⟨l,v,e3,hc⟩:=ET (eA:=ax) Tryz.underlying30 TS (by decide) (fun _=>rfl) (fun _=>rfl) (fun n cs y h=>by
    obtain⟨z,rfl⟩:=open_int h;exact⟨z,rfl,fun q a v ha hv=>by
     match q,ha,hv with
     |0,ha,hv=>cases ha;cases hv;exact .v _⟩) f3
   simp only[List.drop_zero,List.drop_succ_cons,List.take_succ_cons,List.take_zero,List.cons.injEq,and_true]at e0 e1 e2 e3;subst e0;subst e1;subst e2;subst e3;refine⟨⟨k,s,z,l⟩,rfl,fun q a v ha hv=>?_⟩
   match q,ha,hv with
   |0,ha,hv=>cases ha;cases hv;exact .v _
   |1,ha,hv=>cases ha;cases hv;exact .v _
   |2,ha,hv=>cases ha;cases hv;exact .v _
   |3,ha,hv=>cases ha;cases hv;exact hc
theorem MD{n:Nat}{cs:List Value}{y:DataW H×List MemPlace}(h:DataW.trod enc PP W 0 spare true n 61 cs=some y): ∃x:ag,YE W (aB .ak 0 x) cs:=by
 obtain⟨xs,m,_,_,hl,hn,hf⟩:=DataW.trod_struct Tryz.underlying61 h;rw[aeH]at hl
 match cs,hl with
 |[a,b,c,d],_=>
  match xs,hn with
  |[x0,x1,x2,x3],_=>
   have f0:=Uo hf (i:=0) (t:=9) (o:=0) rfl rfl rfl akA rfl
   have f1:=Uo hf (i:=1) (t:=3) (o:=1) rfl rfl rfl TS rfl
   have f2:=Uo hf (i:=2) (t:=59) (o:=2) rfl rfl rfl aoZ rfl
   have f3:=Uo hf (i:=3) (t:=3) (o:=3) rfl rfl rfl TS rfl
   obtain⟨s,e0⟩:=F6 f0;obtain⟨k,e1⟩:=open_int f1;obtain⟨z,e3⟩:=open_int f3;obtain⟨l,v,e2,hc⟩:=ET (eA:=bu .ak 0) Tryz.underlying59 aeG (by decide) (fun _=>rfl) (fun _=>rfl) (fun n cs y h=>aaX h) f2;simp only[List.drop_zero,List.drop_succ_cons,List.take_succ_cons,List.take_zero,List.cons.injEq,and_true]at e0 e1 e2 e3;subst e0;subst e1;subst e2;subst e3;refine⟨⟨s,k,l,z⟩,rfl,fun q a v ha hv=>?_⟩
   match q,ha,hv with
   |0,ha,hv=>cases ha;cases hv;exact .v _
   |1,ha,hv=>cases ha;cases hv;exact .v _
   |2,ha,hv=>cases ha;cases hv;exact hc
   |3,ha,hv=>cases ha;cases hv;exact .v _
theorem Pw{n:Nat}{cs:List Value}{y:DataW H×List MemPlace}(h:DataW.trod enc PP W 0 spare true n 57 cs=some y): ∃x:aj,YE W (aA .ak 0 x) cs:=by
 obtain⟨xs,m,_,_,hl,hn,hf⟩:=DataW.trod_struct Tryz.underlying57 h;rw[aeI]at hl
 match cs,hl with
 |[a,b,c],_=>
  match xs,hn with
  |[x0,x1,x2],_=>
   have f0:=Uo hf (i:=0) (t:=9) (o:=0) rfl rfl rfl akA rfl
   have f1:=Uo hf (i:=1) (t:=3) (o:=1) rfl rfl rfl TS rfl
   have f2:=Uo hf (i:=2) (t:=55) (o:=2) rfl rfl rfl ao0 rfl
   obtain⟨s,e0⟩:=F6 f0;obtain⟨k,e1⟩:=open_int f1;obtain⟨l,v,e2,hc⟩:=ET (eA:=aB .ak 0) Tryz.underlying55 aeH (by decide) (fun _=>rfl) (fun _=>rfl) (fun n cs y h=>MD h) f2;simp only[List.drop_zero,List.drop_succ_cons,List.take_succ_cons,List.take_zero,List.cons.injEq,and_true]at e0 e1 e2;subst e0;subst e1;subst e2;refine⟨⟨s,k,l⟩,rfl,fun q a v ha hv=>?_⟩
   match q,ha,hv with
   |0,ha,hv=>cases ha;cases hv;exact .v _
   |1,ha,hv=>cases ha;cases hv;exact .v _
   |2,ha,hv=>cases ha;cases hv;exact hc
theorem S3{n:Nat}{cs:List Value}{y:DataW H×List MemPlace}(h:DataW.trod enc PP W 0 spare true n 24 cs=some y): ∃(c:ai) (v:Value),cs=[v]∧Cz (sA W) (.sl 0 (c.af.map (aA .ak 0))) v:=by
 obtain⟨xs,m,_,_,hl,hn,hf⟩:=DataW.trod_struct Tryz.underlying24 h;rw[ao2]at hl
 match cs,hl with
 |[a],_=>
  match xs,hn with
  |[x0],_=>
   have f0:=Uo hf (i:=0) (t:=22) (o:=0) rfl rfl rfl ao3 rfl
   obtain⟨l,v,e0,hc⟩:=ET (eA:=aA .ak 0) Tryz.underlying22 aeI (by decide) (fun _=>rfl) (fun _=>rfl) (fun n cs y h=>Pw h) f0;simp only[List.drop_zero,List.take_succ_cons,List.take_zero,List.cons.injEq,and_true]at e0;subst e0;exact⟨⟨l⟩,a,rfl,hc⟩
end Ab
namespace Ab
open Go Go.Proofs Go.Proofs.YtcdinjhcnhepeaaGreatDoor
open Go.ChangeShapes Go.WideShapes Go.ChangeAt Go.RowKit
set_option maxRecDepth 100000
theorem laidOut:laidOutB Tryz.prog=true:=by kernel_rfl
theorem al2:Tryz.prog.readableRec 24=true:=by kernel_rfl
theorem al1:(24:TypeId)<Tryz.prog.types.size:=of_decide_eq_true (by kernel_rfl)
theorem asN:ownKnob Tryz.prog.godebug=none:=by kernel_rfl
end Ab
namespace Ab
open Go
section
variable{α:Type}{enc:α→List AV}{I:Pr}{M:Md}
def ado(m:Nat)(h:Int)(l:List α):Option Nat:=if 0≤h∧h≤m∧l.length=m then some h.toNat else none
theorem Yz(hI:I=ak)(hM:M= .ak){m j:Nat}{h:Int}{l:List α}(hx:ado m h l=some j)(hm:m≤1048576):0=0∧I.fV (M.map enc l)=m∧m≤1048576∧I.nz 0 h m∧h.toNat=j:=by
 subst hI;subst hM;unfold ado at hx
 split at hx
 ·rename_i hc;cases hx;refine⟨rfl,by show(l.map enc).length=m;simpa using hc.2.2,hm,?_,rfl⟩;exact⟨by omega,hc.1,by omega⟩
 ·cases hx
def akN(m:Nat)(a h:Int)(l:List α):Option (List α):=if 0≤a∧a≤h∧h≤m∧l.length=m then some ((l.take h.toNat).drop a.toNat)else none
theorem akM(hI:I=ak)(hM:M= .ak){m:Nat}{a h:Int}{l l':List α}(hx:akN m a h l=some l')(hm:m≤1048576){X:Prop}(hX:X:=by first|rfl|trivial){Y:Prop}(hY:Y:=by first|rfl|trivial):((I.fV (M.map enc l)=m∧m≤1048576∧X)∧Y∧I.nz a h m∧I.CZ (M.map enc l) a h=M.map enc l'):=by
 subst hI;subst hM;unfold akN at hx
 split at hx
 ·rename_i hc;cases hx;refine⟨⟨by show(l.map enc).length=m;simpa using hc.2.2.2,hm,hX⟩,hY,⟨hc.1,hc.2.1,hc.2.2.1⟩,?_⟩;show((l.map enc).take h.toNat).drop a.toNat=((l.take h.toNat).drop a.toNat).map enc;rw[List.map_drop,List.map_take]
 ·cases hx
theorem UZ{r:Nat}(hM:M= .ak)(l:List α)(k:Nat):AV.sl r ((M.map enc l).take k)=AV.sl r (M.map enc (l.take k)):=by
 subst hM;show AV.sl r ((l.map enc).take k)=AV.sl r ((l.take k).map enc);rw[List.map_take]
end
theorem Cd{s:St}{K:St→Prop}(vu:Option (List Fr))(vt:List (Nat×AV))(vb:List (Nat×Ob))(vg:Nat→Option Ob)(vn:Nat)(hk:wk s (sL s vu vt vb vg vn))(h:K (sL s vu vt vb vg vn)): ∃s2,wk s s2∧K s2:=⟨_,hk,h⟩
end Ab
namespace Ab
open Go
section
variable{α β S R:Type}
theorem fin{P:Prop}(k:P:=by cbv;all_goals(repeat' apply And.intro);all_goals first|trivial|rfl|exact aK (by assumption)):P:=k
theorem b8{P Q:Prop}(f:P→Q)(k:P:=by cbv;all_goals(repeat' apply And.intro);all_goals first|trivial|rfl|exact aK (by assumption)):Q:=f k
theorem si{c:Bool}{A B:Option R}{v:R}{G1 G2:Prop}(h:(bif c then A else B)=some v)(h1:A=some v→G1)(h2:B=some v→G2):(c=true→G1)∧(c=false→G2):=EP h rfl h1 h2
theorem bw{A B:Prop}(k:B:=by(repeat' apply And.intro)<;>first|trivial|rfl|exact aK (by assumption)):A∨B:= .inr k
def rg(a:Nat):Nat→List Nat
 |0=>[]
 |n+1=>a::rg (a+1) n
def on:List Nat→Tree→Tree
 |[],t=>t
 |i::l,t=> .one i (on l t)
theorem lp{W:St→(Ex→St→Prop)→Prop}{s:St}{Q:Ex→St→Prop}{body:(S→Option R)→S→Option R}{n:Nat}{Ce:S}{v:R}(h:iter body n Ce=some v)(vt:S→List (Nat×AV))(vb:S→List (Nat×Ob))
  (hr: ∀(R:St→Prop) (m:Nat),(∀(st:S) (s':St),iter body m st=some v→wk s' (sL s none (vt st) (vb st) s.g s.nx)→R s')→ ∀st:S,body (iter body m) st=some v→
   W (sL s none (vt st) (vb st) s.g s.nx) (OO R Q))
  (h0:wk s (sL s none (vt Ce) (vb Ce) s.g s.nx):=by cbv;all_goals(repeat' apply And.intro);all_goals first|trivial|rfl|exact aK (by assumption)):QK W s Q:=step_loop h none vt vb (fun _=>s.g) (fun _=>s.nx) h0 hr
theorem lpD{W:St→(Ex→St→Prop)→Prop}{s:St}{Q:Ex→St→Prop}{body:(S→Option R)→S→Option R}{n:Nat}{Ce:S}{v:R}(h:iter body n Ce=some v)(vd:List Nat)(vt:S→List (Nat×AV))(vb:S→List (Nat×Ob))
  (hr: ∀(R:St→Prop) (m:Nat),(∀(st:S) (s':St),iter body m st=some v→wk s' (sK s vd none (vt st) (vb st) s.g s.nx)→R s')→ ∀st:S,body (iter body m) st=some v→
   W (sK s vd none (vt st) (vb st) s.g s.nx) (OO R Q))
  (h0:wk s (sK s vd none (vt Ce) (vb Ce) s.g s.nx):=by cbv;all_goals(repeat' apply And.intro);all_goals first|trivial|rfl|exact aK (by assumption)):rV W n s Q:=OG h vd none vt vb (fun _=>s.g) (fun _=>s.nx) h0 hr
theorem Y0{W:St→(Ex→St→Prop)→Prop}{s:St}{Q:Ex→St→Prop}{N:Nat}(vd:List Nat)(vt:List (Nat×AV))
  (h: ∀R:St→Prop,(∀s',rV W N s' Q→R s')→W (sK s vd none vt [] s.g s.nx) (OO R Q))
  (hk:wk s (sK s vd none vt [] s.g s.nx):=by cbv;all_goals(repeat' apply And.intro);all_goals first|trivial|rfl|exact aK (by assumption)|exact aia (by assumption) (by decide)):rV W (N+1) s Q:=OE vd none vt [] s.g s.nx hk h
def cj(f:Nat)(args:List AV)(r:AV)(g:Nat→Option Ob)(nx:Nat):Prop:=pO PP f∧lR PP f args g nx r g nx
theorem us{call:qH}(hc:Any PP call){ρ f:Nat}{args:List AV}{r:AV}{g:Nat→Option Ob}{nx:Nat}(e:cj f args r g nx):call ρ f args g nx r g nx:=hc.use e.1 e.2
theorem cj.wk{f:Nat}{args args':List AV}{r:AV}{g:Nat→Option Ob}{nx:Nat}(e:cj f args' r g nx)(hw:Oo args args')(hi:cw args'=true:=by rfl):cj f args r g nx:=⟨e.1,e.2.aq7 hw hi⟩
theorem cK{f:Nat}{fn:Func}(hf:PP.funcs[f]? =some fn)(c:Code){args:List AV}{g:Nat→Option Ob}{nx:Nat}{r:AV}(ρ:Nat)(tree:Nat→Tree)(dead:Nat→List Nat)(op:List Nat)(n:Nat)(hn:fn.ntmps=n)(rs:List ResultVar){I:Pr}(hI:I=ak)
  (hk: ∀call:qH,Any PP call→rS (o7 {I:=I,L:=L,ρ:=ρ,sh:=[],tree:=tree,call:=call,op:=op,dead:=dead,cl:=im,keys:=mv,eqs:=uk} (fun _=>none) 0 0) c (init n args g nx) (post (o7 {I:=I,L:=L,ρ:=ρ,sh:=[],tree:=tree,call:=call,op:=op,dead:=dead,cl:=im,keys:=mv,eqs:=uk} (fun _=>none) 0 0) rs fun r1 g1 A7=>Lq r1 r∧g1=g∧A7=nx))
  (hb:fn.body=some c:=by kernel_rfl)(hd:cD im tree c=true:=by kernel_rfl)(Xn:fn.results.toList=rs:=by kernel_rfl)(Ls:oZ args.length n=true:=by rfl)(hr:cH r=true:=by rfl)(hm:(fn.name== "runtime.NumGoroutine")=false:=by kernel_rfl):cj f args r g nx:=
 ⟨enters hf hb hm,C3 lay mixed hf hb hr ρ [] tree dead op im (vK PP im) (cl0 im) 0 hd n hn Ls Xn hI hk⟩
theorem Aq{f:Nat}{fn:Func}(hf:PP.funcs[f]? =some fn)(c:Code){args:List AV}{g:Nat→Option Ob}{nx:Nat}{r:AV}(ρ:Nat)(tree:Nat→Tree)(dead:Nat→List Nat)(op:List Nat)(n:Nat)(hn:fn.ntmps=n)(rs:List ResultVar){I:Pr}(hI:I=ak){T:Nat→Option FI}(hT:bF PP im T)(fuel:Nat)
  (hk: ∀call:qH,Any PP call→rS (o7 {I:=I,L:=L,ρ:=ρ,sh:=[],tree:=tree,call:=call,op:=op,dead:=dead,cl:=im,keys:=mv,eqs:=uk} T fuel 0) c (init n args g nx) (post (o7 {I:=I,L:=L,ρ:=ρ,sh:=[],tree:=tree,call:=call,op:=op,dead:=dead,cl:=im,keys:=mv,eqs:=uk} T fuel 0) rs fun r1 g1 A7=>Lq r1 r∧g1=g∧A7=nx))
  (hb:fn.body=some c:=by kernel_rfl)(hd:cD im tree c=true:=by kernel_rfl)(Xn:fn.results.toList=rs:=by kernel_rfl)(Ls:oZ args.length n=true:=by rfl)(hr:cH r=true:=by rfl)(hm:(fn.name== "runtime.NumGoroutine")=false:=by kernel_rfl)
  (jY: ∀k,im k=true→xb T k=false:=by repeat'(first|exact cl0 im|refine Ld (by kernel_rfl) ?_)):cj f args r g nx:=
 ⟨enters hf hb hm,C3 lay mixed hf hb hr ρ [] tree dead op im hT jY fuel hd n hn Ls Xn hI hk⟩
end
section
variable{α:Type}{enc:α→List AV}{M:Md}
theorem dG{r:Nat}{l0 l:List α}{u:Unit}(hM:M= .ak)(h:ei (M.ln l0) l=some u){X:List (List AV)}(hX:X=List.take (M.ln l0) (M.map enc l):=by first|rfl|rw[List.take.eq_def]):AV.sl r X=AV.sl r (M.map enc l):=by
 rw[hX];exact abb hM h
theorem ark{r:Nat}(hM:M= .ak)(l:List α)(k:Nat){X:List (List AV)}(hX:X=List.take k (M.map enc l):=by first|rfl|rw[List.take.eq_def]):AV.sl r X=AV.sl r (M.map enc (l.take k)):=by
 rw[hX];exact UZ hM l k
end
end Ab
namespace Ab
open Go
theorem kn2{M:Md}(hM:M= .ak){r:Nat}{l:List aj}{B C K:Prop}(k:K)(b:B:=by first|assumption|exact⟨rfl,by assumption⟩)
  (c:C:=by(try cbv);(repeat' apply And.intro);all_goals first|trivial|exact Cy (by assumption) (by assumption) rfl _|exact Kt (by assumption) (by assumption) _|(refine Px (by assumption) ?_;simp[pA,DF,uu])):
  (RR (.agg [.sl r (M.map (aA M r) l)])∧B∧C)∧K:=⟨⟨Yn hM _,b,c⟩,k⟩
end Ab
namespace Ab
open Go
set_option maxHeartbeats 100000000
set_option maxRecDepth 100000
def zW(I:Pr)(M:Md)(n:Nat)(br:ag)(m:Nat):Nat→List Bool→Int→Option (List Bool)
 |0=>fun _ _=>none
 |k+1=>fun l x=>
  (gN m x).bind fun k1=>
  (gK l k1).bind fun x2=>
  bif x2 then some l else
  (gD l k1 true).bind fun l3=>
  (gI br.ops x).bind fun x4=>
  bif (I.aS x4.kind 3)then
   (some (aw x4.args)).bind fun n5=>
   iter (fun(self:List Bool×Int→Option (List Bool)) st=>match st with
    |(l6,z7)=>
     bif (I.bf z7 n5)then
      (gI x4.args z7).bind fun x8=>
      (zW I M n br m k l6 x8).bind fun l9=>
      self (l9,(I.wrap .i64 (I.add z7 1)))
     else some l6) n (l3,0)
  else some l3
def pt(I:Pr)(M:Md)(n:Nat)(a0:List Int):Option (List Int):=
 (Lh 8 [] a0).bind fun l1=>
 some l1
def fL:ByteArray:=⟨#[111,110,101,115]⟩
def tF:ByteArray:=⟨#[109,111,114,101]⟩
def ail(k:ByteArray):List aD:=[⟨3,⟨#[97]⟩,0,[]⟩,⟨5,k,0,[]⟩,⟨3,⟨#[99,111,110,115]⟩,0,[0,1]⟩]
def Ef(k:ByteArray):aj:=⟨k,0,[⟨⟨#[]⟩,0,ail k,2⟩]⟩
def v8(I:Pr)(M:Md)(n:Nat):Option ai:=some ⟨[Ef fL,Ef tF]⟩
def jz(I:Pr)(M:Md)(n:Nat)(a0:aD):Option Bool:=
 (some (nH a0.name)).bind fun n1=>
 (some (aw a0.args)).bind fun n2=>
 some (I.pick (I.bf 40 n1) true (I.bf 9 n2))
def lX(I:Pr)(M:Md)(n:Nat)(a0:List aD)(n1:Int)(k:Int→Option Int)(self:Int→Option Int)(z2:Int):Option Int:=
 bif (I.bf z2 n1)then
  (gI a0 z2).bind fun x3=>
  (jz I M n x3).bind fun y4=>
  bif y4 then
  some z2
  else
  self (I.wrap .i64 (I.add z2 1))
 else
  k z2
def nS(I:Pr)(M:Md)(n:Nat)(a0:List aD):Option Int:=
 (some (aw a0)).bind fun n1=>
 iter (lX I M n a0 n1 (fun z5=>
  some (-1))) n 0
def ga(I:Pr)(M:Md)(n:Nat)(a0:List aD):Option Bool:=
 (nS I M n a0).bind fun y1=>
 some (I.rL 0 y1)
def mu(I:Pr)(M:Md)(n:Nat)(a0:ag):Option Bool:=
 (some (nH a0.head)).bind fun n1=>
 (some (aw a0.ops)).bind fun n2=>
 (dp (I.pick (I.bf 40 n1) true (I.bf 70 n2)) false (ga I M n a0.ops) default).bind fun y3=>
 some (I.pick (I.pick (I.bf 40 n1) true (I.bf 70 n2)) true y3)
def jr(I:Pr)(M:Md)(n:Nat)(a0:List ag)(n1:Int)(k:Int→Option Int)(self:Int→Option Int)(z2:Int):Option Int:=
 bif (I.bf z2 n1)then
  (gI a0 z2).bind fun x3=>
  (mu I M n x3).bind fun y4=>
  bif y4 then
  some z2
  else
  self (I.wrap .i64 (I.add z2 1))
 else
  k z2
def kf(I:Pr)(M:Md)(n:Nat)(a0:List ag):Option Int:=
 (some (aw a0)).bind fun n1=>
 iter (jr I M n a0 n1 (fun z5=>
  some (-1))) n 0
def eC(I:Pr)(M:Md)(n:Nat)(a0:List ag):Option Bool:=
 (kf I M n a0).bind fun y1=>
 some (I.rL 0 y1)
def qh(I:Pr)(M:Md)(n:Nat)(a0:aj):Option Bool:=
 (some (nH a0.name)).bind fun n1=>
 (some (aw a0.ae)).bind fun n2=>
 (dp (I.pick (I.bf 40 n1) true (I.bf 9 n2)) false (eC I M n a0.ae) default).bind fun y3=>
 some (I.pick (I.pick (I.bf 40 n1) true (I.bf 9 n2)) true y3)
def jV(I:Pr)(M:Md)(n:Nat)(a0:List aj)(n1:Int)(k:Int→Option Int)(self:Int→Option Int)(z2:Int):Option Int:=
 bif (I.bf z2 n1)then
  (gI a0 z2).bind fun x3=>
  (qh I M n x3).bind fun y4=>
  bif y4 then
  some z2
  else
  self (I.wrap .i64 (I.add z2 1))
 else
  k z2
def lz(I:Pr)(M:Md)(n:Nat)(a0:List aj):Option Int:=
 (some (aw a0)).bind fun n1=>
 iter (jV I M n a0 n1 (fun z5=>
  some (-1))) n 0
def eQ(I:Pr)(M:Md)(n:Nat)(a0:List aj):Option Bool:=
 (lz I M n a0).bind fun y1=>
 some (I.rL 0 y1)
def uS(I:Pr)(M:Md)(n:Nat)(a0:ai):Option Bool:=
 (some (aw a0.af)).bind fun n1=>
 (dp (I.bf 16 n1) false (eQ I M n a0.af) default).bind fun y2=>
 some (I.pick (I.bf 16 n1) true y2)
def bY(I:Pr)(M:Md)(n:Nat)(a0:Int)(a1:ByteArray)(a2:Int)(a3:List Int):Option aD:=
 some (⟨a0,a1,a2,a3⟩:aD)
def dH(I:Pr)(M:Md)(n:Nat)(a0:Int)(a1:List aD):Option (List ag):=
 some ([(⟨⟨#[]⟩,0,a1,a0⟩:ag)])
def cL(I:Pr)(M:Md)(n:Nat)(a0:ByteArray)(a1:Int)(a2:List ag):Option aj:=
 some (⟨a0,a1,a2⟩:aj)
def sx(I:Pr)(M:Md)(n:Nat)(a0:List aj):Option ai:=
 some (⟨a0⟩:ai)
def rH(I:Pr)(M:Md)(n:Nat):Option ai:=
 (bY I M n 3 (⟨#[97]⟩:ByteArray) 0 []).bind fun y1=>
 (bY I M n 5 (⟨#[111,110,101,115]⟩:ByteArray) 0 []).bind fun y2=>
 (bY I M n 3 (⟨#[99,111,110,115]⟩:ByteArray) 0 ([0,1])).bind fun y3=>
 (dH I M n 2 ([y1,y2,y3])).bind fun y4=>
 (cL I M n (⟨#[111,110,101,115]⟩:ByteArray) 0 y4).bind fun y5=>
 (bY I M n 1 (⟨#[]⟩:ByteArray) 0 []).bind fun y6=>
 (dH I M n 0 ([y6])).bind fun y7=>
 (cL I M n (⟨#[105,100]⟩:ByteArray) 1 y7).bind fun y8=>
 (bY I M n 4 (⟨#[111,110,101,115]⟩:ByteArray) 0 []).bind fun y9=>
 (bY I M n 5 (⟨#[105,100]⟩:ByteArray) 0 ([0])).bind fun wY=>
 (bY I M n 5 (⟨#[111,110,101,115]⟩:ByteArray) 0 []).bind fun wL=>
 (bY I M n 3 (⟨#[112]⟩:ByteArray) 0 ([1,2])).bind fun EI=>
 (dH I M n 3 ([y9,wY,wL,EI])).bind fun sP=>
 (cL I M n (⟨#[116,119,111]⟩:ByteArray) 0 sP).bind fun Lz=>
 (sx I M n ([y5,y8,Lz])).bind fun H8=>
 some H8
def BO(I:Pr)(M:Md)(n:Nat)(a0:ag):Option Bool:=
 (some (aw a0.ops)).bind fun n1=>
 some (I.pick (I.bf 0 n1) (I.rL n1 60) false)
def je(I:Pr)(M:Md)(n:Nat)(a0:ag):Option Bool:=
 (BO I M n a0).bind fun y1=>
 some (I.not y1)
def jq(I:Pr)(M:Md)(n:Nat)(a0:List ag)(n1:Int)(k:Int→Option Int)(self:Int→Option Int)(z2:Int):Option Int:=
 bif (I.bf z2 n1)then
  (gI a0 z2).bind fun x3=>
  (je I M n x3).bind fun y4=>
  bif y4 then
  some z2
  else
  self (I.wrap .i64 (I.add z2 1))
 else
  k z2
def ke(I:Pr)(M:Md)(n:Nat)(a0:List ag):Option Int:=
 (some (aw a0)).bind fun n1=>
 iter (jq I M n a0 n1 (fun z5=>
  some (-1))) n 0
def iO(I:Pr)(M:Md)(n:Nat)(a0:List ag):Option Bool:=
 (ke I M n a0).bind fun y1=>
 some (I.rL 0 y1)
def kN(I:Pr)(M:Md)(n:Nat)(a0:List ag):Option Bool:=
 (iO I M n a0).bind fun y1=>
 some (I.not y1)
def BN(I:Pr)(M:Md)(n:Nat)(a0:ag):Option Bool:=
 some (I.pick (I.rL 0 a0.aM) (I.rL a0.aM 4) false)
def jd(I:Pr)(M:Md)(n:Nat)(a0:ag):Option Bool:=
 (BN I M n a0).bind fun y1=>
 some (I.not y1)
def jo(I:Pr)(M:Md)(n:Nat)(a0:List ag)(n1:Int)(k:Int→Option Int)(self:Int→Option Int)(z2:Int):Option Int:=
 bif (I.bf z2 n1)then
  (gI a0 z2).bind fun x3=>
  (jd I M n x3).bind fun y4=>
  bif y4 then
  some z2
  else
  self (I.wrap .i64 (I.add z2 1))
 else
  k z2
def kb(I:Pr)(M:Md)(n:Nat)(a0:List ag):Option Int:=
 (some (aw a0)).bind fun n1=>
 iter (jo I M n a0 n1 (fun z5=>
  some (-1))) n 0
def iN(I:Pr)(M:Md)(n:Nat)(a0:List ag):Option Bool:=
 (kb I M n a0).bind fun y1=>
 some (I.rL 0 y1)
def kM(I:Pr)(M:Md)(n:Nat)(a0:List ag):Option Bool:=
 (iN I M n a0).bind fun y1=>
 some (I.not y1)
def mV(I:Pr)(M:Md)(n:Nat)(a1:Int)(k:ByteArray→Option ByteArray)(self:ByteArray→Option ByteArray)(z1:ByteArray):Option ByteArray:=
 (some (nH z1)).bind fun n2=>
 (dp (I.bf 0 n2) true (gB z1 (I.wrap .i64 (I.sub n2 1))) default).bind fun x3=>
 bif (I.pick (I.bf 0 n2) (I.aS x3 a1) false)then
  (G3 z1 0 (I.wrap .i64 (I.sub n2 1))).bind fun s4=>
  self s4
 else
  k z1
def pc(I:Pr)(M:Md)(n:Nat)(a0:ByteArray)(a1:Int):Option ByteArray:=
 iter (mV I M n a1 (fun z5=>
  some z5)) n a0
def nP(I:Pr)(M:Md)(n:Nat)(a1:Int)(k:ByteArray→Option ByteArray)(self:ByteArray→Option ByteArray)(z1:ByteArray):Option ByteArray:=
 (some (nH z1)).bind fun n2=>
 (dp (I.bf 0 n2) true (gB z1 0) default).bind fun x3=>
 bif (I.pick (I.bf 0 n2) (I.aS x3 a1) false)then
  (G3 z1 1 (nH z1)).bind fun s4=>
  self s4
 else
  k z1
def pZ(I:Pr)(M:Md)(n:Nat)(a0:ByteArray)(a1:Int):Option ByteArray:=
 iter (nP I M n a1 (fun z5=>
  some z5)) n a0
def nQ(I:Pr)(M:Md)(n:Nat)(a0:ByteArray)(k:(List Bool)×Int→Option ((List Bool)×Bool))(self:(List Bool)×Int→Option ((List Bool)×Bool))(st:(List Bool)×Int):Option ((List Bool)×Bool):=
 match st with
 |(l2,z3)=>
 (some (nH a0)).bind fun n4=>
 bif (I.bf z3 n4)then
  (gB a0 z3).bind fun x5=>
  bif (I.rL 128 x5)then
  (fe 256 l2).bind fun u6=>
  (fe 256 l2).bind fun u7=>
  (fe 256 l2).bind fun u8=>
  some (l2,false)
  else
  (gN 256 x5).bind fun k9=>
  (gK l2 k9).bind fun vE=>
  (gD l2 k9 true).bind fun AD=>
  self (AD,(I.wrap .i64 (I.add z3 1)))
 else
  k (l2,z3)
def j0(I:Pr)(M:Md)(n:Nat)(a0:ByteArray):Option ((List Bool)×Bool):=
 (some (List.replicate 256 (false:Bool))).bind fun l1=>
 iter (nQ I M n a0 (fun(ia,pa)=>
  (fe 256 ia).bind fun u14=>
  (fe 256 ia).bind fun u15=>
  (fe 256 ia).bind fun u16=>
  some (ia,true))) n (l1,0)
def cr(I:Pr)(M:Md)(n:Nat)(y6:(List Bool)×Bool)(k:ByteArray→Option ByteArray)(self:ByteArray→Option ByteArray)(wX:ByteArray):Option ByteArray:=
 (some (nH wX)).bind fun Gd=>
 bif (I.bf 0 Gd)then
  (gB wX 0).bind fun sQ=>
  (gN 256 sQ).bind fun Xg=>
  (gK y6.1 Xg).bind fun LL=>
  bif (I.not LL)then
  k wX
  else
  (G3 wX 1 (nH wX)).bind fun s21=>
  self s21
 else
  k wX
def c9(I:Pr)(M:Md)(n:Nat)(y6:(List Bool)×Bool)(k:ByteArray→Option ByteArray)(self:ByteArray→Option ByteArray)(z9:ByteArray):Option ByteArray:=
 (some (nH z9)).bind fun Ky=>
 bif (I.bf 0 Ky)then
  (gB z9 (I.wrap .i64 (I.sub Ky 1))).bind fun Fg=>
  (gN 256 Fg).bind fun k12=>
  (gK y6.1 k12).bind fun Dk=>
  bif (I.not Dk)then
  k z9
  else
  (G3 z9 0 (I.wrap .i64 (I.sub Ky 1))).bind fun s22=>
  self s22
 else
  k z9
def kT(I:Pr)(M:Md)(n:Nat)(a0:ByteArray)(a1:ByteArray):Option ByteArray:=
 bif (I.pick (I.seq a0 (⟨#[]⟩:ByteArray)) true (I.seq a1 (⟨#[]⟩:ByteArray)))then
 some a0
 else
 (some (nH a1)).bind fun n1=>
 (dp (I.aS n1 1) true (gB a1 0) default).bind fun x2=>
 bif (I.pick (I.aS n1 1) (I.bf x2 128) false)then
  (gB a1 0).bind fun x3=>
  (pc I M n a0 x3).bind fun y4=>
  (pZ I M n y4 x3).bind fun y5=>
  some y5
 else
  (j0 I M n a1).bind fun y6=>
  (some (List.replicate 256 (false:Bool))).bind fun l7=>
  (fe 256 l7).bind fun u8=>
  bif y6.2 then
  iter (c9 I M n y6 (fun eU=>
   iter (cr I M n y6 (fun Di=>
    some Di)) n eU)) n a0
  else
  none
def pC(I:Pr)(M:Md)(n:Nat)(a0:ByteArray):Option Bool:=
 (some (nH a0)).bind fun n1=>
 (dp (I.pick (I.bf 0 n1) (I.rL n1 8) false) true (kT I M n a0 (⟨#[97,98,99,100,101,102,103,104,105,106,107,108,109,110,111,112,113,114,115,116,117,118,119,120,121,122]⟩:ByteArray)) default).bind fun y2=>
 some (I.pick (I.pick (I.bf 0 n1) (I.rL n1 8) false) (I.seq y2 (⟨#[]⟩:ByteArray)) false)
def lk(I:Pr)(M:Md)(n:Nat)(a0:ag):Option Bool:=
 some (I.seq a0.head (⟨#[]⟩:ByteArray))
def mM(I:Pr)(M:Md)(n:Nat)(a0:ag):Option Bool:=
 (lk I M n a0).bind fun y1=>
 (dp y1 false (pC I M n a0.head) default).bind fun y2=>
 some (I.pick y1 true y2)
def jc(I:Pr)(M:Md)(n:Nat)(a0:ag):Option Bool:=
 (mM I M n a0).bind fun y1=>
 some (I.not y1)
def jn(I:Pr)(M:Md)(n:Nat)(a0:List ag)(n1:Int)(k:Int→Option Int)(self:Int→Option Int)(z2:Int):Option Int:=
 bif (I.bf z2 n1)then
  (gI a0 z2).bind fun x3=>
  (jc I M n x3).bind fun y4=>
  bif y4 then
  some z2
  else
  self (I.wrap .i64 (I.add z2 1))
 else
  k z2
def ka(I:Pr)(M:Md)(n:Nat)(a0:List ag):Option Int:=
 (some (aw a0)).bind fun n1=>
 iter (jn I M n a0 n1 (fun z5=>
  some (-1))) n 0
def iM(I:Pr)(M:Md)(n:Nat)(a0:List ag):Option Bool:=
 (ka I M n a0).bind fun y1=>
 some (I.rL 0 y1)
def kL(I:Pr)(M:Md)(n:Nat)(a0:List ag):Option Bool:=
 (iM I M n a0).bind fun y1=>
 some (I.not y1)
def mL(I:Pr)(M:Md)(n:Nat)(a0:ag)(a2:aj):Option Bool:=
 (lk I M n a0).bind fun y1=>
 (some (aw a2.ae)).bind fun n2=>
 some (I.pick y1 (I.pick (I.bf 1 n2) true (I.not (I.aS a0.aM 0))) false)
def jm(I:Pr)(M:Md)(n:Nat)(a0:List ag)(xj:aj)(n1:Int)(k:Int→Option Int)(self:Int→Option Int)(z2:Int):Option Int:=
 bif (I.bf z2 n1)then
  (gI a0 z2).bind fun x3=>
  (mL I M n x3 xj).bind fun y4=>
  bif y4 then
  some z2
  else
  self (I.wrap .i64 (I.add z2 1))
 else
  k z2
def j8(I:Pr)(M:Md)(n:Nat)(a0:List ag)(xj:aj):Option Int:=
 (some (aw a0)).bind fun n1=>
 iter (jm I M n a0 xj n1 (fun z5=>
  some (-1))) n 0
def eB(I:Pr)(M:Md)(n:Nat)(a0:List ag)(xj:aj):Option Bool:=
 (j8 I M n a0 xj).bind fun y1=>
 some (I.rL 0 y1)
def ja(I:Pr)(M:Md)(n:Nat)(a0:ag):Option Bool:=
 (lk I M n a0).bind fun y1=>
 some (I.not y1)
def jl(I:Pr)(M:Md)(n:Nat)(a0:List ag)(n1:Int)(k:Int→Option Int)(self:Int→Option Int)(z2:Int):Option Int:=
 bif (I.bf z2 n1)then
  (gI a0 z2).bind fun x3=>
  (ja I M n x3).bind fun y4=>
  bif y4 then
  some z2
  else
  self (I.wrap .i64 (I.add z2 1))
 else
  k z2
def j7(I:Pr)(M:Md)(n:Nat)(a0:List ag):Option Int:=
 (some (aw a0)).bind fun n1=>
 iter (jl I M n a0 n1 (fun z5=>
  some (-1))) n 0
def iL(I:Pr)(M:Md)(n:Nat)(a0:List ag):Option Bool:=
 (j7 I M n a0).bind fun y1=>
 some (I.rL 0 y1)
def kK(I:Pr)(M:Md)(n:Nat)(a0:List ag):Option Bool:=
 (iL I M n a0).bind fun y1=>
 some (I.not y1)
def oP(I:Pr)(M:Md)(n:Nat)(a0:ag)(a1:ag):Option Bool:=
 some (I.pick (I.seq a0.head a1.head) (I.aS a0.aM a1.aM) false)
def jj(I:Pr)(M:Md)(n:Nat)(a0:List ag)(bn:ag)(n1:Int)(k:Int→Option Int)(self:Int→Option Int)(z2:Int):Option Int:=
 bif (I.bf z2 n1)then
  (gI a0 z2).bind fun x3=>
  (oP I M n x3 bn).bind fun y4=>
  bif y4 then
  some z2
  else
  self (I.wrap .i64 (I.add z2 1))
 else
  k z2
def fw(I:Pr)(M:Md)(n:Nat)(a0:List ag)(bn:ag):Option Int:=
 (some (aw a0)).bind fun n1=>
 iter (jj I M n a0 bn n1 (fun z5=>
  some (-1))) n 0
def oO(I:Pr)(M:Md)(n:Nat)(a0:ag)(a1:ag):Option Bool:=
 some (I.pick (I.seq a0.head a1.head) (I.aS a0.aM a1.aM) false)
def ji(I:Pr)(M:Md)(n:Nat)(a0:List ag)(bn:ag)(n1:Int)(k:Int→Option Int)(self:Int→Option Int)(z2:Int):Option Int:=
 bif (I.bf z2 n1)then
  (gI a0 z2).bind fun x3=>
  (oO I M n x3 bn).bind fun y4=>
  bif y4 then
  some z2
  else
  self (I.wrap .i64 (I.add z2 1))
 else
  k z2
def fv(I:Pr)(M:Md)(n:Nat)(a0:List ag)(bn:ag):Option Int:=
 (some (aw a0)).bind fun n1=>
 iter (ji I M n a0 bn n1 (fun z5=>
  some (-1))) n 0
def jA(I:Pr)(M:Md)(n:Nat)(a0:ag)(a1:aj):Option Bool:=
 (fw I M n a1.ae a0).bind fun y1=>
 (GZ a1.ae (I.wrap .i64 (I.add y1 1)) (aw a1.ae)).bind fun l2=>
 (fv I M n l2 a0).bind fun y3=>
 some (I.rL 0 y3)
def jk(I:Pr)(M:Md)(n:Nat)(a0:List ag)(bn:aj)(n1:Int)(k:Int→Option Int)(self:Int→Option Int)(z2:Int):Option Int:=
 bif (I.bf z2 n1)then
  (gI a0 z2).bind fun x3=>
  (jA I M n x3 (⟨bn.name,bn.aI,bn.ae⟩:aj)).bind fun y4=>
  bif y4 then
  some z2
  else
  self (I.wrap .i64 (I.add z2 1))
 else
  k z2
def j5(I:Pr)(M:Md)(n:Nat)(a0:List ag)(bn:aj):Option Int:=
 (some (aw a0)).bind fun n1=>
 iter (jk I M n a0 bn n1 (fun z5=>
  some (-1))) n 0
def cZ(I:Pr)(M:Md)(n:Nat)(a0:List ag)(bn:aj):Option Bool:=
 (j5 I M n a0 (⟨bn.name,bn.aI,bn.ae⟩:aj)).bind fun y1=>
 some (I.rL 0 y1)
def wF(I:Pr)(M:Md)(n:Nat)(a0:aj):Option Int:=
 (some (aw a0.ae)).bind fun n1=>
 (dp (I.pick (I.bf n1 1) true (I.bf 6 n1)) false (kN I M n a0.ae) default).bind fun y2=>
 bif (I.pick (I.pick (I.bf n1 1) true (I.bf 6 n1)) true (I.not y2))then
 some 2
 else
 (dp (I.pick (I.bf a0.aI 0) true (I.bf 4 a0.aI)) false (kM I M n a0.ae) default).bind fun y3=>
 bif (I.pick (I.pick (I.bf a0.aI 0) true (I.bf 4 a0.aI)) true (I.not y3))then
  some 3
 else
  (pC I M n a0.name).bind fun y4=>
  (dp (I.not y4) false (kL I M n a0.ae) default).bind fun y5=>
  bif (I.pick (I.not y4) true (I.not y5))then
  some 4
  else
  (eB I M n a0.ae (⟨a0.name,a0.aI,a0.ae⟩:aj)).bind fun y6=>
  bif y6 then
   some 7
  else
   (dp (I.aS a0.aI 0) true (kK I M n a0.ae) default).bind fun y7=>
   bif (I.pick (I.aS a0.aI 0) (I.not y7) false)then
   some 7
   else
   (cZ I M n a0.ae (⟨a0.name,a0.aI,a0.ae⟩:aj)).bind fun y8=>
   bif y8 then
    some 5
   else
    some 0
def oQ(I:Pr)(M:Md)(n:Nat)(a0:aj)(a1:ByteArray):Option Bool:=
 some (I.seq a0.name a1)
def jU(I:Pr)(M:Md)(n:Nat)(a0:List aj)(bn:ByteArray)(n1:Int)(k:Int→Option Int)(self:Int→Option Int)(z2:Int):Option Int:=
 bif (I.bf z2 n1)then
  (gI a0 z2).bind fun x3=>
  (oQ I M n x3 bn).bind fun y4=>
  bif y4 then
  some z2
  else
  self (I.wrap .i64 (I.add z2 1))
 else
  k z2
def fY(I:Pr)(M:Md)(n:Nat)(a0:List aj)(bn:ByteArray):Option Int:=
 (some (aw a0)).bind fun n1=>
 iter (jU I M n a0 bn n1 (fun z5=>
  some (-1))) n 0
def di(I:Pr)(M:Md)(n:Nat)(a0:ByteArray)(a1:ai):Option Int:=
 (fY I M n a1.af a0).bind fun y1=>
 some y1
def BP(I:Pr)(M:Md)(n:Nat)(a0:Int)(a1:Int):Option Bool:=
 some (I.pick (I.rL 0 a0) (I.bf a0 a1) false)
def lO(I:Pr)(M:Md)(n:Nat)(a0:Int)(bn:Int):Option Bool:=
 (BP I M n a0 bn).bind fun y1=>
 some (I.not y1)
def lx(I:Pr)(M:Md)(n:Nat)(a0:List Int)(sM:Int)(n1:Int)(k:Int→Option Int)(self:Int→Option Int)(z2:Int):Option Int:=
 bif (I.bf z2 n1)then
  (gI a0 z2).bind fun x3=>
  (lO I M n x3 sM).bind fun y4=>
  bif y4 then
  some z2
  else
  self (I.wrap .i64 (I.add z2 1))
 else
  k z2
def mZ(I:Pr)(M:Md)(n:Nat)(a0:List Int)(sM:Int):Option Int:=
 (some (aw a0)).bind fun n1=>
 iter (lx I M n a0 sM n1 (fun z5=>
  some (-1))) n 0
def fA(I:Pr)(M:Md)(n:Nat)(a0:List Int)(sM:Int):Option Bool:=
 (mZ I M n a0 sM).bind fun y1=>
 some (I.rL 0 y1)
def jZ(I:Pr)(M:Md)(n:Nat)(a0:List Int)(bn:Int):Option Bool:=
 (fA I M n a0 bn).bind fun y1=>
 some (I.not y1)
def oN(I:Pr)(M:Md)(n:Nat)(a0:Int)(a1:List Bool):Option Bool:=
 (gI a1 a0).bind fun x1=>
 some x1
def lu(I:Pr)(M:Md)(n:Nat)(a0:List Int)(bn:List Bool)(n1:Int)(k:Int→Option Int)(self:Int→Option Int)(z2:Int):Option Int:=
 bif (I.bf z2 n1)then
  (gI a0 z2).bind fun x3=>
  (oN I M n x3 bn).bind fun y4=>
  bif y4 then
  some z2
  else
  self (I.wrap .i64 (I.add z2 1))
 else
  k z2
def mY(I:Pr)(M:Md)(n:Nat)(a0:List Int)(bn:List Bool):Option Int:=
 (some (aw a0)).bind fun n1=>
 iter (lu I M n a0 bn n1 (fun z5=>
  some (-1))) n 0
def fy(I:Pr)(M:Md)(n:Nat)(a0:List Int)(bn:List Bool):Option Bool:=
 (mY I M n a0 bn).bind fun y1=>
 some (I.rL 0 y1)
def qC(I:Pr)(M:Md)(n:Nat)(a0:List aD)(n1:Int)(k:(List Bool)×Int→Option (List Bool))(self:(List Bool)×Int→Option (List Bool))(st:(List Bool)×Int):Option (List Bool):=
 match st with
 |(l2,z3)=>
 bif (I.bf z3 n1)then
  (gI a0 z3).bind fun x4=>
  (dp (I.aS x4.kind 5) false (dp (I.aS x4.kind 3) true (fy I M n x4.args l2) default) default).bind fun y5=>
  (aP 1 l2 (I.pick (I.aS x4.kind 5) true (I.pick (I.aS x4.kind 3) y5 false))).bind fun l6=>
  self (l6,(I.wrap .i64 (I.add z3 1)))
 else
  k (l2,z3)
def yP(I:Pr)(M:Md)(n:Nat)(a0:List aD):Option (List Bool):=
 (some (aw a0)).bind fun n1=>
 iter (qC I M n a0 n1 (fun(l7,z8)=>
  some l7)) n ([],0)
def rE(I:Pr)(M:Md)(n:Nat)(a0:Int)(a1:List Bool):Option Bool:=
 (gI a1 a0).bind fun x1=>
 some x1
def lr(I:Pr)(M:Md)(n:Nat)(a0:List Int)(bn:List Bool)(n1:Int)(k:Int→Option Int)(self:Int→Option Int)(z2:Int):Option Int:=
 bif (I.bf z2 n1)then
  (gI a0 z2).bind fun x3=>
  (rE I M n x3 bn).bind fun y4=>
  bif y4 then
  some z2
  else
  self (I.wrap .i64 (I.add z2 1))
 else
  k z2
def mX(I:Pr)(M:Md)(n:Nat)(a0:List Int)(bn:List Bool):Option Int:=
 (some (aw a0)).bind fun n1=>
 iter (lr I M n a0 bn n1 (fun z5=>
  some (-1))) n 0
def fx(I:Pr)(M:Md)(n:Nat)(a0:List Int)(bn:List Bool):Option Bool:=
 (mX I M n a0 bn).bind fun y1=>
 some (I.rL 0 y1)
def BQ(I:Pr)(M:Md)(n:Nat)(a0:ai)(a1:aj)(a2:ag)(a3:Int):Option Int:=
 (gI a2.ops a3).bind fun x1=>
 (IG ([]:List (Int×Int)) 1 (I.wrap .i64 (I.sub a1.aI 1))).bind fun l2=>
 (IG l2 2 (I.wrap .i64 (I.sub a2.aM 1))).bind fun l3=>
 (some (lA l3 x1.kind 0)).bind fun x4=>
 bif (I.pick (I.bf x1.kind 1) true (I.bf 5 x1.kind))then
 some 3
 else
 (dp (I.pick (I.pick (I.aS x1.kind 1) true (I.aS x1.kind 2)) (I.not (I.seq x1.name (⟨#[]⟩:ByteArray))) false) false (dp (I.not (I.pick (I.aS x1.kind 1) true (I.aS x1.kind 2))) true (pC I M n x1.name) default) default).bind fun y5=>
 bif (I.pick (I.pick (I.pick (I.aS x1.kind 1) true (I.aS x1.kind 2)) (I.not (I.seq x1.name (⟨#[]⟩:ByteArray))) false) true (I.pick (I.not (I.pick (I.aS x1.kind 1) true (I.aS x1.kind 2))) (I.not y5) false))then
  some 4
 else
  bif (I.pick (I.bf x1.num 0) true (I.bf x4 x1.num))then
  some 1
  else
  (some (aw x1.args)).bind fun n6=>
  bif (I.pick (I.pick (I.pick (I.aS x1.kind 1) true (I.aS x1.kind 2)) (I.bf 0 n6) false) true (I.pick (I.aS x1.kind 3) (I.bf 4 n6) false))then
   some 2
  else
   (jZ I M n x1.args a3).bind fun y7=>
   (dp (I.not y7) false (dp (I.pick (I.aS x1.kind 4) true (I.aS x1.kind 5)) true (di I M n x1.name (⟨a0.af⟩:ai)) default) default).bind fun y8=>
   bif (I.pick (I.not y7) true (I.pick (I.pick (I.aS x1.kind 4) true (I.aS x1.kind 5)) (I.bf y8 0) false))then
   some 1
   else
   bif (I.not (I.pick (I.aS x1.kind 4) true (I.aS x1.kind 5)))then
    some 0
   else
    (GZ a2.ops 0 a3).bind fun l9=>
    (yP I M n l9).bind fun wY=>
    (di I M n x1.name (⟨a0.af⟩:ai)).bind fun wL=>
    (gI a0.af wL).bind fun wO=>
    (dp (I.not (I.aS n6 wO.aI)) false (fx I M n x1.args wY) default).bind fun sP=>
    bif (I.pick (I.not (I.aS n6 wO.aI)) true sP)then
    some 7
    else
    some 0
def oT(I:Pr)(M:Md)(n:Nat)(a0:ai)(Uc:Int)(wN:aj)(sQ:ag)(k:Int→Option Int)(self:Int→Option Int)(fh:Int):Option Int:=
 bif (I.bf fh Uc)then
  (BQ I M n (⟨a0.af⟩:ai) wN sQ fh).bind fun R7=>
  bif (I.not (I.aS R7 0))then
  some R7
  else
  self (I.wrap .i64 (I.add fh 1))
 else
  k fh
def oU(I:Pr)(M:Md)(n:Nat)(a0:ai)(n15:Int)(wN:aj)(k:Int→Option Int)(self:Int→Option Int)(lD:Int):Option Int:=
 bif (I.bf lD n15)then
  (gI wN.ae lD).bind fun sQ=>
  (some (aw sQ.ops)).bind fun Uc=>
  iter (oT I M n a0 Uc wN sQ (fun z21=>
   (some (aw sQ.ops)).bind fun WX=>
   bif (I.pick (I.bf sQ.result 0) true (I.rL WX sQ.result))then
   some 1
   else
   self (I.wrap .i64 (I.add lD 1)))) n 0
 else
  k lD
def oV(I:Pr)(M:Md)(n:Nat)(a0:ai)(Y5:Int)(k:Int→Option Int)(self:Int→Option Int)(pa:Int):Option Int:=
 bif (I.bf pa Y5)then
  (gI a0.af pa).bind fun wN=>
  (some (aw wN.ae)).bind fun n15=>
  iter (oU I M n a0 n15 wN (fun z23=>
   self (I.wrap .i64 (I.add pa 1)))) n 0
 else
  k pa
def oW(I:Pr)(M:Md)(n:Nat)(a0:ai)(n6:Int)(k:Int→Option Int)(self:Int→Option Int)(z7:Int):Option Int:=
 bif (I.bf z7 n6)then
  (gI a0.af z7).bind fun x8=>
  (
  (di I M n x8.name (⟨a0.af⟩:ai)).bind fun wY=>
  some (I.bf wY z7)).bind fun j9=>
  bif j9 then
  some 5
  else
  self (I.wrap .i64 (I.add z7 1))
 else
  k z7
def oX(I:Pr)(M:Md)(n:Nat)(a0:ai)(n1:Int)(k:Int→Option Int)(self:Int→Option Int)(z2:Int):Option Int:=
 bif (I.bf z2 n1)then
  (gI a0.af z2).bind fun x3=>
  (wF I M n x3).bind fun y4=>
  bif (I.not (I.aS y4 0))then
  some y4
  else
  self (I.wrap .i64 (I.add z2 1))
 else
  k z2
def dL(I:Pr)(M:Md)(n:Nat)(a0:ai):Option Int:=
 (some (aw a0.af)).bind fun n1=>
 bif (I.pick (I.bf n1 1) true (I.bf 12 n1))then
 some 2
 else
 iter (oX I M n a0 n1 (fun z5=>
  (some (aw a0.af)).bind fun n6=>
  iter (oW I M n a0 n6 (fun H5=>
   (some (aw a0.af)).bind fun Y5=>
   iter (oV I M n a0 Y5 (fun T9=>
    some 0)) n 0)) n 0)) n 0
def gH(I:Pr)(M:Md)(n:Nat)(a0:aD):Option Bool:=
 some (I.pick (I.aS a0.kind 4) true (I.aS a0.kind 5))
def ky(I:Pr)(M:Md)(n:Nat)(a0:ag)(l2:List Bool)(n7:Int)(x5:aD)(k:(List Bool)×Int→Option (List Bool))(self:(List Bool)×Int→Option (List Bool))(st:(List Bool)×Int):Option (List Bool):=
 match st with
 |(l8,z9)=>
 bif (I.bf z9 n7)then
  (gI x5.args z9).bind fun vE=>
  (zW I M n (⟨a0.head,a0.aM,a0.ops,a0.result⟩:ag) (M.ln l2) n l8 vE).bind fun AD=>
  self (AD,(I.wrap .i64 (I.add z9 1)))
 else
  k (l8,z9)
def kA(I:Pr)(M:Md)(n:Nat)(a0:ag)(l2:List Bool)(n1:Int)(k:(List Bool)×Int→Option (List Bool))(self:(List Bool)×Int→Option (List Bool))(st:(List Bool)×Int):Option (List Bool):=
 match st with
 |(l3,z4)=>
 bif (I.bf z4 n1)then
  (gI a0.ops z4).bind fun x5=>
  (gH I M n x5).bind fun y6=>
  bif y6 then
  (some (aw x5.args)).bind fun n7=>
  iter (ky I M n a0 l2 n7 x5 (fun(ia,pa)=>
   self (ia,(I.wrap .i64 (I.add z4 1))))) n (l3,0)
  else
  self (l3,(I.wrap .i64 (I.add z4 1)))
 else
  k (l3,z4)
def oe(I:Pr)(M:Md)(n:Nat)(a0:ag):Option (List Bool):=
 (some (aw a0.ops)).bind fun n1=>
 (vZ 1 n1 false).bind fun l2=>
 iter (kA I M n a0 l2 n1 (fun(Rp,wX)=>
  (ei (M.ln l2) Rp).bind fun u16=>
  some Rp)) n (l2,0)
def dF(I:Pr)(M:Md)(n:Nat)(pM:List Int)(a1:List Int)(n1:Int)(k:Int×(List Int)→Option (List Int))(self:Int×(List Int)→Option (List Int))(st:Int×(List Int)):Option (List Int):=
 match st with
 |(z2,l3)=>
 bif (I.bf z2 n1)then
  (gI a1 z2).bind fun x4=>
  (gI pM x4).bind fun x5=>
  (aP 8 l3 x5).bind fun l6=>
  self ((I.wrap .i64 (I.add z2 1)),l6)
 else
  k (z2,l3)
def bM(I:Pr)(M:Md)(n:Nat)(Ay:ByteArray)(Ax:Int)(Hf:List aD)(Aw:Int)(pM:List Int)(a1:List Int):Option (List Int):=
 (some (aw a1)).bind fun n1=>
 iter (dF I M n pM a1 n1 (fun(z7,l8)=>
  some l8)) n (0,[])
def gn(I:Pr)(M:Md)(n:Nat)(n31:Int)(eT:ag)(Lp:List Bool)(k:(List aD)×(List Int)×Int→Option (ai×Int))(self:(List aD)×(List Int)×Int→Option (ai×Int))(st:(List aD)×(List Int)×Int):Option (ai×Int):=
 match st with
 |(KD,IK,EF)=>
 bif (I.bf EF n31)then
  (gI eT.ops EF).bind fun rm=>
  (
  (dp (I.aS rm.kind 4) true (gI Lp EF) default).bind fun x38=>
  bif (I.pick (I.aS rm.kind 4) (I.not x38) false)then
   (
   (bM I M n eT.head eT.aM KD 0 IK rm.args).bind fun Ub=>
   (some (aw Ub)).bind fun n42=>
   (vZ 8 n42 0).bind fun KC=>
   (some (kO (M.ln KC) Ub KC)).bind fun HG=>
   (some (oY (M.ln KC) Ub)).bind fun MO=>
   bif (I.aS n42 0)then
    (aP 56 KD (⟨5,rm.name,rm.num,[]⟩:aD)).bind fun l46=>
    (some (aw l46)).bind fun n47=>
    some ((I.wrap .i64 (I.sub n47 1)),l46)
   else
    (ei (M.ln KC) HG).bind fun u48=>
    (aP 56 KD (⟨5,rm.name,rm.num,HG⟩:aD)).bind fun Xa=>
    (some (aw Xa)).bind fun n50=>
    some ((I.wrap .i64 (I.sub n50 1)),Xa)).bind fun(Eg,j40)=>
   (aP 8 IK Eg).bind fun Y6=>
   some (j40,Y6)
  else
   (
   (bM I M n eT.head eT.aM KD 0 IK rm.args).bind fun YS=>
   (some (aw YS)).bind fun n55=>
   (vZ 8 n55 0).bind fun PL=>
   (some (kO (M.ln PL) YS PL)).bind fun W9=>
   (some (oY (M.ln PL) YS)).bind fun WW=>
   bif (I.aS n55 0)then
    (aP 56 KD (⟨rm.kind,rm.name,rm.num,[]⟩:aD)).bind fun MZ=>
    (some (aw MZ)).bind fun n60=>
    some ((I.wrap .i64 (I.sub n60 1)),MZ)
   else
    (ei (M.ln PL) W9).bind fun u61=>
    (aP 56 KD (⟨rm.kind,rm.name,rm.num,W9⟩:aD)).bind fun PK=>
    (some (aw PK)).bind fun PA=>
    some ((I.wrap .i64 (I.sub PA 1)),PK)).bind fun(j52,j53)=>
   (aP 8 IK j52).bind fun Tc=>
   some (j53,Tc)).bind fun(To,HJ)=>
  self (To,HJ,(I.wrap .i64 (I.add EF 1)))
 else
  k (KD,IK,EF)
def gp(I:Pr)(M:Md)(n:Nat)(a0:ai)(l9:List aj)(Gd:Int)(AB:aj)(eU:Int)(k:(List Bool)×(List aj)×Int→Option (ai×Int))(self:(List Bool)×(List aj)×Int→Option (ai×Int))(st:(List Bool)×(List aj)×Int):Option (ai×Int):=
 match st with
 |(ua,rJ,fh)=>
 bif (I.bf fh Gd)then
  (gI AB.ae fh).bind fun eT=>
  (some (List.replicate 2 (0:Int))).bind fun xP=>
  (fe 2 xP).bind fun Zs=>
  (fe 2 ([eU,fh])).bind fun Sh=>
  (gN 2 0).bind fun k24=>
  (gK ([eU,fh]) k24).bind fun BY=>
  (gI a0.af BY).bind fun x26=>
  (gN 2 1).bind fun k27=>
  (gK ([eU,fh]) k27).bind fun x28=>
  (gI x26.ae x28).bind fun rF=>
  (oe I M n rF).bind fun Lp=>
  (some (aw eT.ops)).bind fun n31=>
  iter (gn I M n n31 eT Lp (fun(Tb,N1,z67)=>
   (gI N1 eT.result).bind fun Zn=>
   (gN 2 0).bind fun Y7=>
   (gK ([eU,fh]) Y7).bind fun Zm=>
   (gN (M.ln l9) Zm).bind fun k71=>
   (gK rJ k71).bind fun x72=>
   (aP 56 x72.ae (⟨eT.head,eT.aM,Tb,Zn⟩:ag)).bind fun W8=>
   (gD rJ k71 (⟨x72.name,x72.aI,W8⟩:aj)).bind fun l74=>
   self (Lp,l74,(I.wrap .i64 (I.add fh 1))))) n ([],[],0)
 else
  k (ua,rJ,fh)
def gr(I:Pr)(M:Md)(n:Nat)(a0:ai)(l9:List aj)(xa:Int)(k:(List Bool)×(List aj)×Int→Option (ai×Int))(self:(List Bool)×(List aj)×Int→Option (ai×Int))(st:(List Bool)×(List aj)×Int):Option (ai×Int):=
 match st with
 |(ia,yY,eU)=>
 bif (I.bf eU xa)then
  (gI a0.af eU).bind fun AB=>
  (some (aw AB.ae)).bind fun Gd=>
  iter (gp I M n a0 l9 Gd AB eU (fun(l75,l76,z77)=>
   self (l75,l76,(I.wrap .i64 (I.add eU 1))))) n (ia,yY,0)
 else
  k (ia,yY,eU)
def gv(I:Pr)(M:Md)(n:Nat)(a0:ai)(n2:Int)(k:(List aj)×Int→Option (ai×Int))(self:(List aj)×Int→Option (ai×Int))(st:(List aj)×Int):Option (ai×Int):=
 match st with
 |(l5,z6)=>
 bif (I.bf z6 n2)then
  (gI a0.af z6).bind fun x7=>
  (aP 48 l5 (⟨x7.name,x7.aI,[]⟩:aj)).bind fun l8=>
  self (l8,(I.wrap .i64 (I.add z6 1)))
 else
  k (l5,z6)
def ml(I:Pr)(M:Md)(n:Nat)(a0:ai):Option (ai×Int):=
 (dL I M n a0).bind fun y1=>
 bif (I.not (I.aS y1 0))then
 some ((⟨[]⟩:ai),y1)
 else
 (some (aw a0.af)).bind fun n2=>
 bif (I.bf 0 n2)then
  (gI a0.af 0).bind fun x3=>
  (aP 48 [] (⟨x3.name,x3.aI,[]⟩:aj)).bind fun l4=>
  iter (gv I M n a0 n2 (fun(l9,yS)=>
   (some (aw a0.af)).bind fun xa=>
   iter (gr I M n a0 l9 xa (fun(KA,l79,z80)=>
    (ei (M.ln l9) l79).bind fun u81=>
    some ((⟨l79⟩:ai),0))) n ([],l9,0))) n (l4,(I.wrap .i64 (I.add 0 1)))
 else
  none
def ot(I:Pr)(M:Md)(n:Nat)(a0:aj)(a1:ByteArray):Option Bool:=
 some (I.seq a0.name a1)
def jT(I:Pr)(M:Md)(n:Nat)(a0:List aj)(bn:ByteArray)(n1:Int)(k:Int→Option Int)(self:Int→Option Int)(z2:Int):Option Int:=
 bif (I.bf z2 n1)then
  (gI a0 z2).bind fun x3=>
  (ot I M n x3 bn).bind fun y4=>
  bif y4 then
  some z2
  else
  self (I.wrap .i64 (I.add z2 1))
 else
  k z2
def fX(I:Pr)(M:Md)(n:Nat)(a0:List aj)(bn:ByteArray):Option Int:=
 (some (aw a0)).bind fun n1=>
 iter (jT I M n a0 bn n1 (fun z5=>
  some (-1))) n 0
def ld(I:Pr)(M:Md)(n:Nat)(a0:ai)(a1:ByteArray):Option aj:=
 (fX I M n a0.af a1).bind fun y1=>
 (gI a0.af y1).bind fun x2=>
 some x2
def sd(I:Pr)(M:Md)(n:Nat)(a0:aD):Option Bool:=
 (gH I M n a0).bind fun y1=>
 some (I.not y1)
def gG(I:Pr)(M:Md)(n:Nat)(a0:aD):Option Bool:=
 (sd I M n a0).bind fun y1=>
 some (I.not y1)
def lW(I:Pr)(M:Md)(n:Nat)(a0:List aD)(n1:Int)(k:Int→Option Int)(self:Int→Option Int)(z2:Int):Option Int:=
 bif (I.bf z2 n1)then
  (gI a0 z2).bind fun x3=>
  (gG I M n x3).bind fun y4=>
  bif y4 then
  some z2
  else
  self (I.wrap .i64 (I.add z2 1))
 else
  k z2
def iQ(I:Pr)(M:Md)(n:Nat)(a0:List aD):Option Int:=
 (some (aw a0)).bind fun n1=>
 iter (lW I M n a0 n1 (fun z5=>
  some (-1))) n 0
def fZ(I:Pr)(M:Md)(n:Nat)(a0:List aD):Option Bool:=
 (iQ I M n a0).bind fun y1=>
 some (I.rL 0 y1)
def mR(I:Pr)(M:Md)(n:Nat)(a0:List aD):Option Bool:=
 (fZ I M n a0).bind fun y1=>
 some (I.not y1)
def oq(I:Pr)(M:Md)(n:Nat)(a0:ag):Option Bool:=
 (mR I M n a0.ops).bind fun y1=>
 some y1
def jW(I:Pr)(M:Md)(n:Nat)(a0:aj):Option Bool:=
 (some (aw a0.ae)).bind fun n1=>
 (dp (I.aS n1 1) true (gI a0.ae 0) default).bind fun x2=>
 (dp (I.pick (I.aS n1 1) (I.seq x2.head (⟨#[]⟩:ByteArray)) false) true (gI a0.ae 0) default).bind fun x3=>
 (dp (I.pick (I.aS n1 1) (I.seq x2.head (⟨#[]⟩:ByteArray)) false) true (oq I M n (⟨x3.head,x3.aM,x3.ops,x3.result⟩:ag)) default).bind fun y4=>
 some (I.pick (I.pick (I.aS n1 1) (I.seq x2.head (⟨#[]⟩:ByteArray)) false) y4 false)
def kC(I:Pr)(M:Md)(n:Nat)(a0:List Int)(n1:Int)(k:Int×Int→Option Int)(self:Int×Int→Option Int)(st:Int×Int):Option Int:=
 match st with
 |(z2,z3)=>
 bif (I.bf z3 n1)then
  (gI a0 z3).bind fun x4=>
  self ((I.wrap .i64 (I.add z2 x4)),(I.wrap .i64 (I.add z3 1)))
 else
  k (z2,z3)
def iW(I:Pr)(M:Md)(n:Nat)(a0:List Int):Option Int:=
 (some (aw a0)).bind fun n1=>
 iter (kC I M n a0 n1 (fun(z5,z6)=>
  some z5)) n (0,0)
def od(I:Pr)(M:Md)(n:Nat)(pM:List Int)(a1:List Int)(n1:Int)(k:Int×(List Int)→Option (List Int))(self:Int×(List Int)→Option (List Int))(st:Int×(List Int)):Option (List Int):=
 match st with
 |(z2,l3)=>
 bif (I.bf z2 n1)then
  (gI a1 z2).bind fun x4=>
  (gI pM x4).bind fun x5=>
  (aP 8 l3 x5).bind fun l6=>
  self ((I.wrap .i64 (I.add z2 1)),l6)
 else
  k (z2,l3)
def gF(I:Pr)(M:Md)(n:Nat)(Ay:ByteArray)(Ax:Int)(Aw:Int)(pM:List Int)(a1:List Int):Option (List Int):=
 (some (aw a1)).bind fun n1=>
 iter (od I M n pM a1 n1 (fun(z7,l8)=>
  some l8)) n (0,[])
def oc(I:Pr)(M:Md)(n:Nat)(pM:List Int)(a1:List Int)(n1:Int)(k:Int×(List Int)→Option (List Int))(self:Int×(List Int)→Option (List Int))(st:Int×(List Int)):Option (List Int):=
 match st with
 |(z2,l3)=>
 bif (I.bf z2 n1)then
  (gI a1 z2).bind fun x4=>
  (gI pM x4).bind fun x5=>
  (aP 8 l3 x5).bind fun l6=>
  self ((I.wrap .i64 (I.add z2 1)),l6)
 else
  k (z2,l3)
def kx(I:Pr)(M:Md)(n:Nat)(Ay:ByteArray)(Ax:Int)(Hf:List aD)(Aw:Int)(pM:List Int)(Av:ai)(a1:List Int):Option (List Int):=
 (some (aw a1)).bind fun n1=>
 iter (oc I M n pM a1 n1 (fun(z7,l8)=>
  some l8)) n (0,[])
def cV(I:Pr)(M:Md)(n:Nat)(wh:List aD)(n69:Int)(yT:List Int)(k:(List aD)×(List Int)×Int→Option ((List aD)×(List Int)))(self:(List aD)×(List Int)×Int→Option ((List aD)×(List Int)))(st:(List aD)×(List Int)×Int):Option ((List aD)×(List Int)):=
 match st with
 |(PJ,KB,QI)=>
 bif (I.bf QI n69)then
  (gI wh QI).bind fun D5=>
  bif (I.aS D5.kind 1)then
  (gI yT D5.num).bind fun x74=>
  (aP 8 KB x74).bind fun l75=>
  self (PJ,l75,(I.wrap .i64 (I.add QI 1)))
  else
  bif (I.aS D5.kind 2)then
   (gI yT 0).bind fun x76=>
   (gI PJ x76).bind fun x77=>
   (gI x77.args D5.num).bind fun x78=>
   (aP 8 KB x78).bind fun l79=>
   self (PJ,l79,(I.wrap .i64 (I.add QI 1)))
  else
   (
   (gF I M n ⟨#[]⟩ 0 0 KB D5.args).bind fun y82=>
   (some (aw y82)).bind fun Y1=>
   (vZ 8 Y1 0).bind fun BZ=>
   (some (kO (M.ln BZ) y82 BZ)).bind fun DL=>
   (some (oY (M.ln BZ) y82)).bind fun n86=>
   bif (I.aS Y1 0)then
    (aP 56 PJ (⟨D5.kind,D5.name,D5.num,[]⟩:aD)).bind fun l87=>
    (some (aw l87)).bind fun n88=>
    some ((I.wrap .i64 (I.sub n88 1)),l87)
   else
    (ei (M.ln BZ) DL).bind fun u89=>
    (aP 56 PJ (⟨D5.kind,D5.name,D5.num,DL⟩:aD)).bind fun l90=>
    (some (aw l90)).bind fun n91=>
    some ((I.wrap .i64 (I.sub n91 1)),l90)).bind fun(j80,j81)=>
   (aP 8 KB j80).bind fun l92=>
   self (j81,l92,(I.wrap .i64 (I.add QI 1)))
 else
  k (PJ,KB,QI)
def ik(I:Pr)(M:Md)(n:Nat)(wh:List aD)(n50:Int)(k:Int×Int→Option ((List aD)×(List Int)))(self:Int×Int→Option ((List aD)×(List Int)))(st:Int×Int):Option ((List aD)×(List Int)):=
 match st with
 |(Ut,T8)=>
 bif (I.bf T8 n50)then
  (gI wh T8).bind fun x53=>
  bif (I.aS x53.kind 3)then
  self ((I.wrap .i64 (I.add Ut 1)),(I.wrap .i64 (I.add T8 1)))
  else
  self (Ut,(I.wrap .i64 (I.add T8 1)))
 else
  k (Ut,T8)
def lH(I:Pr)(M:Md)(n:Nat)(k:Unit→Option ((List aD)×(List Int)))(self:Unit→Option ((List aD)×(List Int)))(st:Unit):Option ((List aD)×(List Int)):=
 match st with
 |()=>
 k ()
def ij(I:Pr)(M:Md)(n:Nat)(k:Unit→Option ((List aD)×(List Int)))(self:Unit→Option ((List aD)×(List Int)))(st:Unit):Option ((List aD)×(List Int)):=
 match st with
 |()=>
 k ()
def cW(I:Pr)(M:Md)(n:Nat)(a0:ai)(bn:ai)(n26:Int)(eT:ag)(eU:Int)(fh:Int)(k:(List aD)×(List Int)×Int→Option ai)(self:(List aD)×(List Int)×Int→Option ai)(st:(List aD)×(List Int)×Int):Option ai:=
 match st with
 |(re,v9,AG)=>
 bif (I.bf AG n26)then
  (gI eT.ops AG).bind fun gO=>
  (
  (kx I M n eT.head eT.aM re 0 v9 (⟨bn.af⟩:ai) gO.args).bind fun yT=>
  (gH I M n gO).bind fun y34=>
  bif y34 then
   (
   (ld I M n (⟨bn.af⟩:ai) gO.name).bind fun AH=>
   (gI AH.ae 0).bind fun Ol=>
   (jW I M n AH).bind fun y42=>
   some (y42,Ol.head,Ol.aM,Ol.ops,Ol.result)).bind fun(M5,To,HJ,wh,Eg)=>
   (gN 2 0).bind fun k43=>
   (gK ([eU,fh]) k43).bind fun LJ=>
   (gI a0.af LJ).bind fun x45=>
   (gN 2 1).bind fun k46=>
   (gK ([eU,fh]) k46).bind fun Oj=>
   (gI x45.ae Oj).bind fun x48=>
   (some (aw x48.ops)).bind fun S7=>
   (some (aw wh)).bind fun n50=>
   iter (ik I M n wh n50 (fun(z54,z55)=>
    (some (aw re)).bind fun n56=>
    (dp (I.not M5) false (iW I M n ([n56,z54,(I.wrap .i64 (I.sub (I.wrap .i64 (I.sub S7 AG)) 1))])) default).bind fun y57=>
    bif (I.pick (I.not M5) true (I.bf 60 y57))then
    (some (aw yT)).bind fun WW=>
    (vZ 8 WW 0).bind fun MZ=>
    (some (kO (M.ln MZ) yT MZ)).bind fun Rn=>
    (some (oY (M.ln MZ) yT)).bind fun n61=>
    bif (I.aS WW 0)then
     (aP 56 re (⟨gO.kind,gO.name,gO.num,[]⟩:aD)).bind fun PK=>
     (some (aw PK)).bind fun PA=>
     (aP 8 v9 (I.wrap .i64 (I.sub PA 1))).bind fun Tc=>
     some (PK,Tc)
    else
     (ei (M.ln MZ) Rn).bind fun u65=>
     (aP 56 re (⟨gO.kind,gO.name,gO.num,Rn⟩:aD)).bind fun N1=>
     (some (aw N1)).bind fun n67=>
     (aP 8 v9 (I.wrap .i64 (I.sub n67 1))).bind fun l68=>
     some (N1,l68)
    else
    (some (aw wh)).bind fun n69=>
    iter (cV I M n wh n69 yT (fun(l93,l94,z95)=>
     (gI l94 Eg).bind fun x96=>
     (aP 8 v9 x96).bind fun l97=>
     some (l93,l97))) n (re,[],0))) n (0,0)
  else
   (gN 2 0).bind fun k98=>
   (gK ([eU,fh]) k98).bind fun x99=>
   (gI a0.af x99).bind fun afb=>
   (gN 2 1).bind fun ais=>
   (gK ([eU,fh]) ais).bind fun afa=>
   (gI afb.ae afa).bind fun ae9=>
   (some (aw ae9.ops)).bind fun W5=>
   iter (ij I M n (fun _=>
    (some (aw re)).bind fun Kx=>
    (dp (I.not false) false (iW I M n ([Kx,0,(I.wrap .i64 (I.sub (I.wrap .i64 (I.sub W5 AG)) 1))])) default).bind fun ae0=>
    bif (I.pick (I.not false) true (I.bf 60 ae0))then
    (some (aw yT)).bind fun aa7=>
    (vZ 8 aa7 0).bind fun M3=>
    (some (kO (M.ln M3) yT M3)).bind fun Tj=>
    (some (oY (M.ln M3) yT)).bind fun am3=>
    bif (I.aS aa7 0)then
     (aP 56 re (⟨gO.kind,gO.name,gO.num,[]⟩:aD)).bind fun M1=>
     (some (aw M1)).bind fun W4=>
     (aP 8 v9 (I.wrap .i64 (I.sub W4 1))).bind fun aii=>
     some (M1,aii)
    else
     (ei (M.ln M3) Tj).bind fun alS=>
     (aP 56 re (⟨gO.kind,gO.name,gO.num,Tj⟩:aD)).bind fun abj=>
     (some (aw abj)).bind fun W3=>
     (aP 8 v9 (I.wrap .i64 (I.sub W3 1))).bind fun aih=>
     some (abj,aih)
    else
    iter (lH I M n (fun _=>
     none)) n ())) n ()).bind fun(Xi,j32)=>
  self (Xi,j32,(I.wrap .i64 (I.add AG 1)))
 else
  k (re,v9,AG)
def dO(I:Pr)(M:Md)(n:Nat)(a0:ai)(bn:ai)(l9:List aj)(Gd:Int)(AB:aj)(eU:Int)(k:(List Int)×(List aj)×Int→Option ai)(self:(List Int)×(List aj)×Int→Option ai)(st:(List Int)×(List aj)×Int):Option ai:=
 match st with
 |(ua,rJ,fh)=>
 bif (I.bf fh Gd)then
  (gI AB.ae fh).bind fun eT=>
  (some (List.replicate 2 (0:Int))).bind fun xP=>
  (fe 2 xP).bind fun Zs=>
  (fe 2 ([eU,fh])).bind fun Sh=>
  (fe 2 ([eU,fh])).bind fun YY=>
  (fe 2 ua).bind fun UO=>
  (some (aw eT.ops)).bind fun n26=>
  iter (cW I M n a0 bn n26 eT eU fh (fun(as9,as8,z120)=>
   (gI as8 eT.result).bind fun ae4=>
   (gN 2 0).bind fun ans=>
   (gK ([eU,fh]) ans).bind fun alM=>
   (gN (M.ln l9) alM).bind fun aip=>
   (gK rJ aip).bind fun Zq=>
   (aP 56 Zq.ae (⟨eT.head,eT.aM,as9,ae4⟩:ag)).bind fun anj=>
   (gD rJ aip (⟨Zq.name,Zq.aI,anj⟩:aj)).bind fun Tg=>
   self ([eU,fh],Tg,(I.wrap .i64 (I.add fh 1))))) n ([],[],0)
 else
  k (ua,rJ,fh)
def dP(I:Pr)(M:Md)(n:Nat)(a0:ai)(bn:ai)(l9:List aj)(xa:Int)(k:(List Int)×(List aj)×Int→Option ai)(self:(List Int)×(List aj)×Int→Option ai)(st:(List Int)×(List aj)×Int):Option ai:=
 match st with
 |(ia,yY,eU)=>
 bif (I.bf eU xa)then
  (gI a0.af eU).bind fun AB=>
  (some (aw AB.ae)).bind fun Gd=>
  iter (dO I M n a0 bn l9 Gd AB eU (fun(as7,Tf,z130)=>
   self (as7,Tf,(I.wrap .i64 (I.add eU 1))))) n (ia,yY,0)
 else
  k (ia,yY,eU)
def cX(I:Pr)(M:Md)(n:Nat)(a0:ai)(n2:Int)(k:(List aj)×Int→Option ai)(self:(List aj)×Int→Option ai)(st:(List aj)×Int):Option ai:=
 match st with
 |(l5,z6)=>
 bif (I.bf z6 n2)then
  (gI a0.af z6).bind fun x7=>
  (aP 48 l5 (⟨x7.name,x7.aI,[]⟩:aj)).bind fun l8=>
  self (l8,(I.wrap .i64 (I.add z6 1)))
 else
  k (l5,z6)
def om(I:Pr)(M:Md)(n:Nat)(a0:ai)(bn:ai):Option ai:=
 (some (List.replicate 2 (0:Int))).bind fun l1=>
 (some (aw a0.af)).bind fun n2=>
 bif (I.bf 0 n2)then
 (gI a0.af 0).bind fun x3=>
 (aP 48 [] (⟨x3.name,x3.aI,[]⟩:aj)).bind fun l4=>
 iter (cX I M n a0 n2 (fun(l9,yS)=>
  (some (aw a0.af)).bind fun xa=>
  iter (dP I M n a0 bn l9 xa (fun(abh,abg,z133)=>
   (ei (M.ln l9) abg).bind fun ari=>
   some (⟨abg⟩:ai))) n (l1,l9,0))) n (l4,(I.wrap .i64 (I.add 0 1)))
 else
 none
def mm(I:Pr)(M:Md)(n:Nat)(a0:ai):Option (ai×Int):=
 (dL I M n a0).bind fun y1=>
 bif (I.not (I.aS y1 0))then
 some ((⟨[]⟩:ai),y1)
 else
 (om I M n (⟨a0.af⟩:ai) (⟨a0.af⟩:ai)).bind fun y2=>
 some (y2,0)
def fo(I:Pr)(M:Md)(n:Nat)(n21:Int)(sQ:ag)(k:(List aD)×(List Int)×Int→Option ai)(self:(List aD)×(List Int)×Int→Option ai)(st:(List aD)×(List Int)×Int):Option ai:=
 match st with
 |(IL,yI,T9)=>
 bif (I.bf T9 n21)then
  (gI sQ.ops T9).bind fun BY=>
  (
  (
   (bM I M n sQ.head sQ.aM IL 0 yI BY.args).bind fun Lp=>
   (some (aw Lp)).bind fun n31=>
   (vZ 8 n31 0).bind fun KD=>
   (some (kO (M.ln KD) Lp KD)).bind fun IK=>
   (some (oY (M.ln KD) Lp)).bind fun n34=>
   bif (I.aS n31 0)then
   (aP 56 IL (⟨BY.kind,BY.name,BY.num,[]⟩:aD)).bind fun l35=>
   (some (aw l35)).bind fun n36=>
   some ((I.wrap .i64 (I.sub n36 1)),l35)
   else
   (ei (M.ln KD) IK).bind fun u37=>
   (aP 56 IL (⟨BY.kind,BY.name,BY.num,IK⟩:aD)).bind fun l38=>
   (some (aw l38)).bind fun n39=>
   some ((I.wrap .i64 (I.sub n39 1)),l38)).bind fun(j28,j29)=>
  (aP 8 yI j28).bind fun l40=>
  some (j29,l40)).bind fun(j26,j27)=>
  self (j26,j27,(I.wrap .i64 (I.add T9 1)))
 else
  k (IL,yI,T9)
def fp(I:Pr)(M:Md)(n:Nat)(l8:List aj)(MP:Int)(Dk:aj)(EH:Int)(k:(List aj)×Int→Option ai)(self:(List aj)×Int→Option ai)(st:(List aj)×Int):Option ai:=
 match st with
 |(yX,lD)=>
 bif (I.bf lD MP)then
  (gI Dk.ae lD).bind fun sQ=>
  (some (List.replicate 2 (0:Int))).bind fun rJ=>
  (fe 2 rJ).bind fun u19=>
  (fe 2 ([EH,lD])).bind fun u20=>
  (some (aw sQ.ops)).bind fun n21=>
  iter (fo I M n n21 sQ (fun(Ue,Ee,z43)=>
   (gI Ee sQ.result).bind fun LJ=>
   (gN 2 0).bind fun k45=>
   (gK ([EH,lD]) k45).bind fun x46=>
   (gN (M.ln l8) x46).bind fun k47=>
   (gK yX k47).bind fun x48=>
   (aP 56 x48.ae (⟨sQ.head,sQ.aM,Ue,LJ⟩:ag)).bind fun Xa=>
   (gD yX k47 (⟨x48.name,x48.aI,Xa⟩:aj)).bind fun Ro=>
   self (Ro,(I.wrap .i64 (I.add lD 1))))) n ([],[],0)
 else
  k (yX,lD)
def ed(I:Pr)(M:Md)(n:Nat)(a0:ai)(l8:List aj)(Ky:Int)(k:(List aj)×Int→Option ai)(self:(List aj)×Int→Option ai)(st:(List aj)×Int):Option ai:=
 match st with
 |(AD,EH)=>
 bif (I.bf EH Ky)then
  (gI a0.af EH).bind fun Dk=>
  (some (aw Dk.ae)).bind fun MP=>
  iter (fp I M n l8 MP Dk EH (fun(Y6,T8)=>
   self (Y6,(I.wrap .i64 (I.add EH 1))))) n (AD,0)
 else
  k (AD,EH)
def fu(I:Pr)(M:Md)(n:Nat)(a0:ai)(n1:Int)(k:(List aj)×Int→Option ai)(self:(List aj)×Int→Option ai)(st:(List aj)×Int):Option ai:=
 match st with
 |(l4,z5)=>
 bif (I.bf z5 n1)then
  (gI a0.af z5).bind fun x6=>
  (aP 48 l4 (⟨x6.name,x6.aI,[]⟩:aj)).bind fun l7=>
  self (l7,(I.wrap .i64 (I.add z5 1)))
 else
  k (l4,z5)
def se(I:Pr)(M:Md)(n:Nat)(a0:ai):Option ai:=
 (some (aw a0.af)).bind fun n1=>
 bif (I.bf 0 n1)then
 (gI a0.af 0).bind fun x2=>
 (aP 48 [] (⟨x2.name,x2.aI,[]⟩:aj)).bind fun l3=>
 iter (fu I M n a0 n1 (fun(l8,z9)=>
  (some (aw a0.af)).bind fun Ky=>
  iter (ed I M n a0 l8 Ky (fun(l53,z54)=>
   (ei (M.ln l8) l53).bind fun u55=>
   some (⟨l53⟩:ai))) n (l8,0))) n (l3,(I.wrap .i64 (I.add 0 1)))
 else
 none
def vV(I:Pr)(M:Md)(n:Nat)(a0:ai):Option ai:=
 (se I M n a0).bind fun y1=>
 some y1
def lM(I:Pr)(M:Md)(n:Nat)(a1:ai):Option ai:=
 (ml I M n a1).bind fun y1=>
 some y1.1
def lL(I:Pr)(M:Md)(n:Nat)(a1:ai):Option ai:=
 (mm I M n a1).bind fun y1=>
 some y1.1
def nk(I:Pr)(M:Md)(n:Nat)(pM:List Int)(a1:List Int)(n1:Int)(k:Int×(List Int)→Option (List Int))(self:Int×(List Int)→Option (List Int))(st:Int×(List Int)):Option (List Int):=
 match st with
 |(z2,l3)=>
 bif (I.bf z2 n1)then
  (gI a1 z2).bind fun x4=>
  (gI pM x4).bind fun x5=>
  (aP 8 l3 x5).bind fun l6=>
  self ((I.wrap .i64 (I.add z2 1)),l6)
 else
  k (z2,l3)
def jP(I:Pr)(M:Md)(n:Nat)(Ay:ByteArray)(Ax:Int)(Hf:List aD)(Aw:Int)(pM:List Int)(Av:ai)(a1:List Int):Option (List Int):=
 (some (aw a1)).bind fun n1=>
 iter (nk I M n pM a1 n1 (fun(z7,l8)=>
  some l8)) n (0,[])
def cC(I:Pr)(M:Md)(n:Nat)(MO:Int)(LJ:aD)(AH:aj)(k:Int×Bool×ByteArray×Int×(List aD)×Int→Option (Bool×ByteArray×Int×(List aD)×Int))(k2:Int→Option (Bool×ByteArray×Int×(List aD)×Int))(self:Int→Option (Bool×ByteArray×Int×(List aD)×Int))(R6:Int):Option (Bool×ByteArray×Int×(List aD)×Int):=
 bif (I.bf R6 MO)then
  (gI AH.ae R6).bind fun Oj=>
  (some (aw LJ.args)).bind fun N0=>
  bif (I.pick (I.pick (I.aS LJ.kind 3) (I.seq Oj.head LJ.name) false) (I.aS Oj.aM N0) false)then
  (oq I M n Oj).bind fun y49=>
  k (R6,y49,Oj.head,Oj.aM,Oj.ops,Oj.result)
  else
  self (I.wrap .i64 (I.add R6 1))
 else
  k2 R6
def ic(I:Pr)(M:Md)(n:Nat)(wh:List aD)(Y1:Int)(yT:List Int)(k:(List aD)×(List Int)×Int→Option ((List aD)×(List Int)))(self:(List aD)×(List Int)×Int→Option ((List aD)×(List Int)))(st:(List aD)×(List Int)×Int):Option ((List aD)×(List Int)):=
 match st with
 |(BZ,DL,Lx)=>
 bif (I.bf Lx Y1)then
  (gI wh Lx).bind fun D4=>
  bif (I.aS D4.kind 1)then
  (gI yT D4.num).bind fun YV=>
  (aP 8 DL YV).bind fun l89=>
  self (BZ,l89,(I.wrap .i64 (I.add Lx 1)))
  else
  bif (I.aS D4.kind 2)then
   (gI yT 0).bind fun x90=>
   (gI BZ x90).bind fun x91=>
   (gI x91.args D4.num).bind fun x92=>
   (aP 8 DL x92).bind fun l93=>
   self (BZ,l93,(I.wrap .i64 (I.add Lx 1)))
  else
   (
   (gF I M n ⟨#[]⟩ 0 0 DL D4.args).bind fun y96=>
   (some (aw y96)).bind fun n97=>
   (vZ 8 n97 0).bind fun l98=>
   (some (kO (M.ln l98) y96 l98)).bind fun l99=>
   (some (oY (M.ln l98) y96)).bind fun am4=>
   bif (I.aS n97 0)then
    (aP 56 BZ (⟨D4.kind,D4.name,D4.num,[]⟩:aD)).bind fun abl=>
    (some (aw abl)).bind fun ah7=>
    some ((I.wrap .i64 (I.sub ah7 1)),abl)
   else
    (ei (M.ln l98) l99).bind fun alT=>
    (aP 56 BZ (⟨D4.kind,D4.name,D4.num,l99⟩:aD)).bind fun abk=>
    (some (aw abk)).bind fun Kx=>
    some ((I.wrap .i64 (I.sub Kx 1)),abk)).bind fun(j94,j95)=>
   (aP 8 DL j94).bind fun aij=>
   self (j95,aij,(I.wrap .i64 (I.add Lx 1)))
 else
  k (BZ,DL,Lx)
def ig(I:Pr)(M:Md)(n:Nat)(wh:List aD)(n64:Int)(k:Int×Int→Option ((List aD)×(List Int)))(self:Int×Int→Option ((List aD)×(List Int)))(st:Int×Int):Option ((List aD)×(List Int)):=
 match st with
 |(T7,T6)=>
 bif (I.bf T6 n64)then
  (gI wh T6).bind fun x67=>
  bif (I.aS x67.kind 3)then
  self ((I.wrap .i64 (I.add T7 1)),(I.wrap .i64 (I.add T6 1)))
  else
  self (T7,(I.wrap .i64 (I.add T6 1)))
 else
  k (T7,T6)
def kB(I:Pr)(M:Md)(n:Nat)(k:Unit→Option ((List aD)×(List Int)))(self:Unit→Option ((List aD)×(List Int)))(st:Unit):Option ((List aD)×(List Int)):=
 match st with
 |()=>
 k ()
def ib(I:Pr)(M:Md)(n:Nat)(k:Unit→Option ((List aD)×(List Int)))(self:Unit→Option ((List aD)×(List Int)))(st:Unit):Option ((List aD)×(List Int)):=
 match st with
 |()=>
 k ()
def cT(I:Pr)(M:Md)(n:Nat)(a0:ai)(bn:ai)(n26:Int)(eT:ag)(eU:Int)(fh:Int)(k:(List aD)×(List Int)×Int→Option ai)(self:(List aD)×(List Int)×Int→Option ai)(st:(List aD)×(List Int)×Int):Option ai:=
 match st with
 |(re,v9,AG)=>
 bif (I.bf AG n26)then
  (gI eT.ops AG).bind fun gO=>
  (
  (jP I M n eT.head eT.aM re 0 v9 bn gO.args).bind fun yT=>
  (gH I M n gO).bind fun y34=>
  bif y34 then
   (
   (ld I M n bn gO.name).bind fun AH=>
   (gI AH.ae 0).bind fun Ol=>
   bif (I.seq Ol.head (⟨#[]⟩:ByteArray))then
    some (false,⟨#[]⟩,0,[],0)
   else
    (gI gO.args 0).bind fun x42=>
    (gI v9 x42).bind fun x43=>
    (gI re x43).bind fun LJ=>
    (some (aw AH.ae)).bind fun MO=>
    iter (cC I M n MO LJ AH (fun(z50,Ua,H7,YT,IJ,y55)=>
     some (Ua,H7,YT,IJ,y55)) (fun z56=>
     some (false,⟨#[]⟩,0,[],0))) n 0).bind fun(M5,To,HJ,wh,Eg)=>
   (gN 2 0).bind fun Xf=>
   (gK ([eU,fh]) Xf).bind fun YW=>
   (gI a0.af YW).bind fun x59=>
   (gN 2 1).bind fun k60=>
   (gK ([eU,fh]) k60).bind fun x61=>
   (gI x59.ae x61).bind fun x62=>
   (some (aw x62.ops)).bind fun PA=>
   (some (aw wh)).bind fun n64=>
   iter (ig I M n wh n64 (fun(z68,z69)=>
    (some (aw re)).bind fun n70=>
    (dp (I.not M5) false (iW I M n ([n70,z68,(I.wrap .i64 (I.sub (I.wrap .i64 (I.sub PA AG)) 1))])) default).bind fun y71=>
    bif (I.pick (I.not M5) true (I.bf 60 y71))then
    (some (aw yT)).bind fun n72=>
    (vZ 8 n72 0).bind fun W8=>
    (some (kO (M.ln W8) yT W8)).bind fun l74=>
    (some (oY (M.ln W8) yT)).bind fun n75=>
    bif (I.aS n72 0)then
     (aP 56 re (⟨gO.kind,gO.name,gO.num,[]⟩:aD)).bind fun l76=>
     (some (aw l76)).bind fun Y2=>
     (aP 8 v9 (I.wrap .i64 (I.sub Y2 1))).bind fun KA=>
     some (l76,KA)
    else
     (ei (M.ln W8) l74).bind fun u79=>
     (aP 56 re (⟨gO.kind,gO.name,gO.num,l74⟩:aD)).bind fun l80=>
     (some (aw l80)).bind fun n81=>
     (aP 8 v9 (I.wrap .i64 (I.sub n81 1))).bind fun l82=>
     some (l80,l82)
    else
    (some (aw wh)).bind fun Y1=>
    iter (ic I M n wh Y1 yT (fun(ata,M3,z109)=>
     (gI M3 Eg).bind fun UC=>
     (aP 8 v9 UC).bind fun M1=>
     some (ata,M1))) n (re,[],0))) n (0,0)
  else
   (gN 2 0).bind fun air=>
   (gK ([eU,fh]) air).bind fun ae8=>
   (gI a0.af ae8).bind fun ae7=>
   (gN 2 1).bind fun aiq=>
   (gK ([eU,fh]) aiq).bind fun ae6=>
   (gI ae7.ae ae6).bind fun ae5=>
   (some (aw ae5.ops)).bind fun W2=>
   iter (ib I M n (fun _=>
    (some (aw re)).bind fun W1=>
    (dp (I.not false) false (iW I M n ([W1,0,(I.wrap .i64 (I.sub (I.wrap .i64 (I.sub W2 AG)) 1))])) default).bind fun aeZ=>
    bif (I.pick (I.not false) true (I.bf 60 aeZ))then
    (some (aw yT)).bind fun aa6=>
    (vZ 8 aa6 0).bind fun Ti=>
    (some (kO (M.ln Ti) yT Ti)).bind fun Th=>
    (some (oY (M.ln Ti) yT)).bind fun am2=>
    bif (I.aS aa6 0)then
     (aP 56 re (⟨gO.kind,gO.name,gO.num,[]⟩:aD)).bind fun abi=>
     (some (aw abi)).bind fun W0=>
     (aP 8 v9 (I.wrap .i64 (I.sub W0 1))).bind fun Tg=>
     some (abi,Tg)
    else
     (ei (M.ln Ti) Th).bind fun alR=>
     (aP 56 re (⟨gO.kind,gO.name,gO.num,Th⟩:aD)).bind fun Tf=>
     (some (aw Tf)).bind fun WZ=>
     (aP 8 v9 (I.wrap .i64 (I.sub WZ 1))).bind fun abh=>
     some (Tf,abh)
    else
    iter (kB I M n (fun _=>
     none)) n ())) n ()).bind fun(Xi,j32)=>
  self (Xi,j32,(I.wrap .i64 (I.add AG 1)))
 else
  k (re,v9,AG)
def dM(I:Pr)(M:Md)(n:Nat)(a0:ai)(bn:ai)(l9:List aj)(Gd:Int)(AB:aj)(eU:Int)(k:(List Int)×(List aj)×Int→Option ai)(self:(List Int)×(List aj)×Int→Option ai)(st:(List Int)×(List aj)×Int):Option ai:=
 match st with
 |(ua,rJ,fh)=>
 bif (I.bf fh Gd)then
  (gI AB.ae fh).bind fun eT=>
  (some (List.replicate 2 (0:Int))).bind fun xP=>
  (fe 2 xP).bind fun Zs=>
  (fe 2 ([eU,fh])).bind fun Sh=>
  (fe 2 ([eU,fh])).bind fun YY=>
  (fe 2 ua).bind fun UO=>
  (some (aw eT.ops)).bind fun n26=>
  iter (cT I M n a0 bn n26 eT eU fh (fun(abg,as6,z134)=>
   (gI as6 eT.result).bind fun ae3=>
   (gN 2 0).bind fun anr=>
   (gK ([eU,fh]) anr).bind fun alL=>
   (gN (M.ln l9) alL).bind fun aio=>
   (gK rJ aio).bind fun Zp=>
   (aP 56 Zp.ae (⟨eT.head,eT.aM,abg,ae3⟩:ag)).bind fun ani=>
   (gD rJ aio (⟨Zp.name,Zp.aI,ani⟩:aj)).bind fun anh=>
   self ([eU,fh],anh,(I.wrap .i64 (I.add fh 1))))) n ([],[],0)
 else
  k (ua,rJ,fh)
def dN(I:Pr)(M:Md)(n:Nat)(a0:ai)(bn:ai)(l9:List aj)(xa:Int)(k:(List Int)×(List aj)×Int→Option ai)(self:(List Int)×(List aj)×Int→Option ai)(st:(List Int)×(List aj)×Int):Option ai:=
 match st with
 |(ia,yY,eU)=>
 bif (I.bf eU xa)then
  (gI a0.af eU).bind fun AB=>
  (some (aw AB.ae)).bind fun Gd=>
  iter (dM I M n a0 bn l9 Gd AB eU (fun(as5,as4,z144)=>
   self (as5,as4,(I.wrap .i64 (I.add eU 1))))) n (ia,yY,0)
 else
  k (ia,yY,eU)
def cU(I:Pr)(M:Md)(n:Nat)(a0:ai)(n2:Int)(k:(List aj)×Int→Option ai)(self:(List aj)×Int→Option ai)(st:(List aj)×Int):Option ai:=
 match st with
 |(l5,z6)=>
 bif (I.bf z6 n2)then
  (gI a0.af z6).bind fun x7=>
  (aP 48 l5 (⟨x7.name,x7.aI,[]⟩:aj)).bind fun l8=>
  self (l8,(I.wrap .i64 (I.add z6 1)))
 else
  k (l5,z6)
def oh(I:Pr)(M:Md)(n:Nat)(a0:ai)(bn:ai):Option ai:=
 (some (List.replicate 2 (0:Int))).bind fun l1=>
 (some (aw a0.af)).bind fun n2=>
 bif (I.bf 0 n2)then
 (gI a0.af 0).bind fun x3=>
 (aP 48 [] (⟨x3.name,x3.aI,[]⟩:aj)).bind fun l4=>
 iter (cU I M n a0 n2 (fun(l9,yS)=>
  (some (aw a0.af)).bind fun xa=>
  iter (dN I M n a0 bn l9 xa (fun(l145,ang,z147)=>
   (ei (M.ln l9) ang).bind fun arh=>
   some (⟨ang⟩:ai))) n (l1,l9,0))) n (l4,(I.wrap .i64 (I.add 0 1)))
 else
 none
def ou(I:Pr)(M:Md)(n:Nat)(a0:ai):Option (ai×Int):=
 (dL I M n a0).bind fun y1=>
 bif (I.not (I.aS y1 0))then
 some ((⟨[]⟩:ai),y1)
 else
 (oh I M n a0 a0).bind fun y2=>
 some (y2,0)
def lK(I:Pr)(M:Md)(n:Nat)(a1:ai):Option ai:=
 (ou I M n (⟨a1.af⟩:ai)).bind fun y1=>
 some y1.1
def iR(I:Pr)(M:Md)(n:Nat)(a0:List Int)(a1:List Int)(n1:Int)(k:Int→Option Bool)(self:Int→Option Bool)(z3:Int):Option Bool:=
 bif (I.bf z3 n1)then
  (gI a0 z3).bind fun x4=>
  (gI a1 z3).bind fun x5=>
  bif (I.not (I.aS x4 x5))then
  some false
  else
  self (I.wrap .i64 (I.add z3 1))
 else
  k z3
def dZ(I:Pr)(M:Md)(n:Nat)(a0:List Int)(a1:List Int):Option Bool:=
 (some (aw a0)).bind fun n1=>
 (some (aw a1)).bind fun n2=>
 bif (I.not (I.aS n1 n2))then
 some false
 else
 iter (iR I M n a0 a1 n1 (fun z6=>
  some true)) n 0
def fH(I:Pr)(M:Md)(n:Nat)(yI:List aD)(n33:Int)(tS:aD)(Zo:List Int)(Od:List Int)(k:Int×Int→Option ((List (aV×List Int))×(List aD)×(List Int)))(k2:Int→Option ((List (aV×List Int))×(List aD)×(List Int)))(self:Int→Option ((List (aV×List Int))×(List aD)×(List Int)))(EF:Int):Option ((List (aV×List Int))×(List aD)×(List Int)):=
 bif (I.bf EF n33)then
  (gI Zo EF).bind fun rm=>
  (gI yI rm).bind fun Ju=>
  (some (decide ((⟨Ju.kind,Ju.name,Ju.num⟩:aV)=(⟨tS.kind,tS.name,tS.num⟩:aV)))).bind fun b37=>
  (dp b37 true (dZ I M n Ju.args Od) default).bind fun y38=>
  bif (I.pick b37 y38 false)then
  k (EF,rm)
  else
  self (I.wrap .i64 (I.add EF 1))
 else
  k2 EF
def iA(I:Pr)(M:Md)(n:Nat)(WX:Int)(yU:ag)(k:(List aD)×(List Int)×(List (aV×List Int))×Int→Option (ai×Int))(self:(List aD)×(List Int)×(List (aV×List Int))×Int→Option (ai×Int))(st:(List aD)×(List Int)×(List (aV×List Int))×Int):Option (ai×Int):=
 match st with
 |(yI,N2,HI,EG)=>
 bif (I.bf EG WX)then
  (gI yU.ops EG).bind fun tS=>
  (
  (bM I M n yU.head yU.aM yI 0 N2 tS.args).bind fun Od=>
  (some (lA HI (⟨tS.kind,tS.name,tS.num⟩:aV) [])).bind fun Zo=>
  (some (aw Zo)).bind fun n33=>
  iter (fH I M n yI n33 tS Zo Od (fun(z39,AH)=>
   (aP 8 N2 AH).bind fun Ue=>
   some (HI,yI,Ue)) (fun z42=>
   (some (aw Od)).bind fun n43=>
   (vZ 8 n43 0).bind fun HG=>
   (some (kO (M.ln HG) Od HG)).bind fun M0=>
   (some (oY (M.ln HG) Od)).bind fun Y3=>
   bif (I.aS n43 0)then
    (aP 56 yI (⟨tS.kind,tS.name,tS.num,[]⟩:aD)).bind fun PN=>
    (some (aw PN)).bind fun N0=>
    (some (NC HI (⟨tS.kind,tS.name,tS.num⟩:aV))).bind fun(Ro,k51,l52)=>
    (aP 8 l52 (I.wrap .i64 (I.sub N0 1))).bind fun IJ=>
    (JU Ro k51 IJ).bind fun Ud=>
    (aP 8 N2 (I.wrap .i64 (I.sub N0 1))).bind fun PL=>
    some (Ud,PN,PL)
   else
    (ei (M.ln HG) M0).bind fun u57=>
    (aP 56 yI (⟨tS.kind,tS.name,tS.num,M0⟩:aD)).bind fun l58=>
    (some (aw l58)).bind fun n59=>
    (some (NC HI (⟨tS.kind,tS.name,tS.num⟩:aV))).bind fun(l61,k62,l63)=>
    (aP 8 l63 (I.wrap .i64 (I.sub n59 1))).bind fun Tb=>
    (JU l61 k62 Tb).bind fun N1=>
    (aP 8 N2 (I.wrap .i64 (I.sub n59 1))).bind fun l67=>
    some (N1,l58,l67))) n 0).bind fun(v9,j29,j30)=>
  self (j29,j30,v9,(I.wrap .i64 (I.add EG 1)))
 else
  k (yI,N2,HI,EG)
def iB(I:Pr)(M:Md)(n:Nat)(l9:List aj)(n15:Int)(wN:aj)(pa:Int)(k:(List aj)×Int→Option (ai×Int))(self:(List aj)×Int→Option (ai×Int))(st:(List aj)×Int):Option (ai×Int):=
 match st with
 |(PQ,Ho)=>
 bif (I.bf Ho n15)then
  (gI wN.ae Ho).bind fun yU=>
  (some (List.replicate 2 (0:Int))).bind fun KF=>
  (fe 2 KF).bind fun u20=>
  (fe 2 ([pa,Ho])).bind fun u21=>
  (some (aw yU.ops)).bind fun WX=>
  iter (iA I M n WX yU (fun(l68,l69,PJ,z71)=>
   (gI l69 yU.result).bind fun x72=>
   (gN 2 0).bind fun k73=>
   (gK ([pa,Ho]) k73).bind fun x74=>
   (gN (M.ln l9) x74).bind fun k75=>
   (gK PQ k75).bind fun x76=>
   (aP 56 x76.ae (⟨yU.head,yU.aM,l68,x72⟩:ag)).bind fun l77=>
   (gD PQ k75 (⟨x76.name,x76.aI,l77⟩:aj)).bind fun KA=>
   self (KA,(I.wrap .i64 (I.add Ho 1))))) n ([],[],([]:List (aV×List Int)),0)
 else
  k (PQ,Ho)
def iC(I:Pr)(M:Md)(n:Nat)(a0:ai)(l9:List aj)(xa:Int)(k:(List aj)×Int→Option (ai×Int))(self:(List aj)×Int→Option (ai×Int))(st:(List aj)×Int):Option (ai×Int):=
 match st with
 |(ia,pa)=>
 bif (I.bf pa xa)then
  (gI a0.af pa).bind fun wN=>
  (some (aw wN.ae)).bind fun n15=>
  iter (iB I M n l9 n15 wN pa (fun(l79,z80)=>
   self (l79,(I.wrap .i64 (I.add pa 1))))) n (ia,0)
 else
  k (ia,pa)
def iD(I:Pr)(M:Md)(n:Nat)(a0:ai)(n2:Int)(k:(List aj)×Int→Option (ai×Int))(self:(List aj)×Int→Option (ai×Int))(st:(List aj)×Int):Option (ai×Int):=
 match st with
 |(l5,z6)=>
 bif (I.bf z6 n2)then
  (gI a0.af z6).bind fun x7=>
  (aP 48 l5 (⟨x7.name,x7.aI,[]⟩:aj)).bind fun l8=>
  self (l8,(I.wrap .i64 (I.add z6 1)))
 else
  k (l5,z6)
def rB(I:Pr)(M:Md)(n:Nat)(a0:ai):Option (ai×Int):=
 (dL I M n a0).bind fun y1=>
 bif (I.not (I.aS y1 0))then
 some ((⟨[]⟩:ai),y1)
 else
 (some (aw a0.af)).bind fun n2=>
 bif (I.bf 0 n2)then
  (gI a0.af 0).bind fun x3=>
  (aP 48 [] (⟨x3.name,x3.aI,[]⟩:aj)).bind fun l4=>
  iter (iD I M n a0 n2 (fun(l9,yS)=>
   (some (aw a0.af)).bind fun xa=>
   iter (iC I M n a0 l9 xa (fun(l81,z82)=>
    (ei (M.ln l9) l81).bind fun u83=>
    some ((⟨l81⟩:ai),0))) n (l9,0))) n (l4,(I.wrap .i64 (I.add 0 1)))
 else
  none
def lJ(I:Pr)(M:Md)(n:Nat)(a1:ai):Option ai:=
 (rB I M n (⟨a1.af⟩:ai)).bind fun y1=>
 some y1.1
def tM(I:Pr)(M:Md)(n:Nat)(a0:ai)(a1:Int)(a2:Int):Option (ag×Int):=
 (dL I M n a0).bind fun y1=>
 bif (I.not (I.aS y1 0))then
 some ((⟨⟨#[]⟩,0,[],0⟩:ag),y1)
 else
 (some (aw a0.af)).bind fun n2=>
 (dp (I.pick (I.pick (I.bf a1 0) true (I.rL n2 a1)) true (I.bf a2 0)) false (gI a0.af a1) default).bind fun x3=>
 (some (aw x3.ae)).bind fun n4=>
 bif (I.pick (I.pick (I.pick (I.bf a1 0) true (I.rL n2 a1)) true (I.bf a2 0)) true (I.rL n4 a2))then
  some ((⟨⟨#[]⟩,0,[],0⟩:ag),1)
 else
  (gI a0.af a1).bind fun x5=>
  (gI x5.ae a2).bind fun x6=>
  some (x6,0)
def nB(I:Pr)(M:Md)(n:Nat)(l3:List Bool)(MP:Int)(x9:aD)(k:(List Bool)×Int→Option ((List Bool)×Int))(self:(List Bool)×Int→Option ((List Bool)×Int))(st:(List Bool)×Int):Option ((List Bool)×Int):=
 match st with
 |(yX,lD)=>
 bif (I.bf lD MP)then
  (gI x9.args lD).bind fun sQ=>
  (gN (M.ln l3) sQ).bind fun Xg=>
  (gK yX Xg).bind fun LL=>
  (gD yX Xg true).bind fun PO=>
  self (PO,(I.wrap .i64 (I.add lD 1)))
 else
  k (yX,lD)
def qD(I:Pr)(M:Md)(n:Nat)(l3:List Bool)(y1:ag×Int)(k:(List Bool)×Int→Option ((List Bool)×Int))(self:(List Bool)×Int→Option ((List Bool)×Int))(st:(List Bool)×Int):Option ((List Bool)×Int):=
 match st with
 |(l7,z8)=>
 bif (I.rL 0 z8)then
  (gI y1.1.ops z8).bind fun x9=>
  (gN (M.ln l3) z8).bind fun Xh=>
  (gK l7 Xh).bind fun Fg=>
  (gD l7 Xh (I.pick (I.pick Fg true (I.aS x9.kind 4)) true (I.aS x9.kind 5))).bind fun ia=>
  (gK ia Xh).bind fun Dk=>
  bif Dk then
  (some (aw x9.args)).bind fun MP=>
  iter (nB I M n l3 MP x9 (fun(xP,D3)=>
   self (xP,(I.wrap .i64 (I.sub z8 1))))) n (ia,0)
  else
  self (ia,(I.wrap .i64 (I.sub z8 1)))
 else
  k (l7,z8)
def yQ(I:Pr)(M:Md)(n:Nat)(a0:ai)(a1:Int)(a2:Int):Option ((List Bool)×Int):=
 (tM I M n a0 a1 a2).bind fun y1=>
 bif (I.not (I.aS y1.2 0))then
 some ([],y1.2)
 else
 (some (aw y1.1.ops)).bind fun n2=>
 (vZ 1 n2 false).bind fun l3=>
 (gN (M.ln l3) y1.1.result).bind fun k4=>
 (gK l3 k4).bind fun x5=>
 (gD l3 k4 true).bind fun l6=>
 iter (qD I M n l3 y1 (fun(yI,T9)=>
  (ei (M.ln l3) yI).bind fun UO=>
  some (yI,0))) n (l6,(I.wrap .i64 (I.sub n2 1)))
def jF(I:Pr)(M:Md)(n:Nat)(n29:Int)(eT:ag)(YU:(List Bool)×Int)(k:(List aD)×(List Int)×Int→Option (ai×Int))(self:(List aD)×(List Int)×Int→Option (ai×Int))(st:(List aD)×(List Int)×Int):Option (ai×Int):=
 match st with
 |(Hp,HH,E9)=>
 bif (I.bf E9 n29)then
  (gI eT.ops E9).bind fun H9=>
  (
  (gI YU.1 E9).bind fun Ju=>
  bif (I.not Ju)then
   (aP 8 HH 0).bind fun l37=>
   some (Hp,l37)
  else
   (
   (bM I M n eT.head eT.aM Hp 0 HH H9.args).bind fun AH=>
   (some (aw AH)).bind fun Y4=>
   (vZ 8 Y4 0).bind fun Ee=>
   (some (kO (M.ln Ee) AH Ee)).bind fun KC=>
   (some (oY (M.ln Ee) AH)).bind fun n44=>
   bif (I.aS Y4 0)then
    (aP 56 Hp (⟨H9.kind,H9.name,H9.num,[]⟩:aD)).bind fun M0=>
    (some (aw M0)).bind fun Y3=>
    some ((I.wrap .i64 (I.sub Y3 1)),M0)
   else
    (ei (M.ln Ee) KC).bind fun u47=>
    (aP 56 Hp (⟨H9.kind,H9.name,H9.num,KC⟩:aD)).bind fun PM=>
    (some (aw PM)).bind fun S7=>
    some ((I.wrap .i64 (I.sub S7 1)),PM)).bind fun(wh,Eg)=>
   (aP 8 HH wh).bind fun Ro=>
   some (Eg,Ro)).bind fun(j34,M5)=>
  self (j34,M5,(I.wrap .i64 (I.add E9 1)))
 else
  k (Hp,HH,E9)
def jG(I:Pr)(M:Md)(n:Nat)(a0:ai)(l9:List aj)(Gd:Int)(AB:aj)(eU:Int)(k:(List Bool)×(List aj)×Int→Option (ai×Int))(self:(List Bool)×(List aj)×Int→Option (ai×Int))(st:(List Bool)×(List aj)×Int):Option (ai×Int):=
 match st with
 |(ua,rJ,fh)=>
 bif (I.bf fh Gd)then
  (gI AB.ae fh).bind fun eT=>
  (some (List.replicate 2 (0:Int))).bind fun xP=>
  (fe 2 xP).bind fun Zs=>
  (fe 2 ([eU,fh])).bind fun Sh=>
  (gN 2 0).bind fun k24=>
  (gK ([eU,fh]) k24).bind fun BY=>
  (gN 2 1).bind fun k26=>
  (gK ([eU,fh]) k26).bind fun tS=>
  (yQ I M n a0 BY tS).bind fun YU=>
  (some (aw eT.ops)).bind fun n29=>
  iter (jF I M n n29 eT YU (fun(Y6,l52,z53)=>
   (gI l52 eT.result).bind fun x54=>
   (gN 2 0).bind fun k55=>
   (gK ([eU,fh]) k55).bind fun x56=>
   (gN (M.ln l9) x56).bind fun Xf=>
   (gK rJ Xf).bind fun YW=>
   (aP 56 YW.ae (⟨eT.head,eT.aM,Y6,x54⟩:ag)).bind fun MZ=>
   (gD rJ Xf (⟨YW.name,YW.aI,MZ⟩:aj)).bind fun Rn=>
   self (YU.1,Rn,(I.wrap .i64 (I.add fh 1))))) n ([],[],0)
 else
  k (ua,rJ,fh)
def jH(I:Pr)(M:Md)(n:Nat)(a0:ai)(l9:List aj)(xa:Int)(k:(List Bool)×(List aj)×Int→Option (ai×Int))(self:(List Bool)×(List aj)×Int→Option (ai×Int))(st:(List Bool)×(List aj)×Int):Option (ai×Int):=
 match st with
 |(ia,yY,eU)=>
 bif (I.bf eU xa)then
  (gI a0.af eU).bind fun AB=>
  (some (aw AB.ae)).bind fun Gd=>
  iter (jG I M n a0 l9 Gd AB eU (fun(l61,PK,z63)=>
   self (l61,PK,(I.wrap .i64 (I.add eU 1))))) n (ia,yY,0)
 else
  k (ia,yY,eU)
def jI(I:Pr)(M:Md)(n:Nat)(a0:ai)(n2:Int)(k:(List aj)×Int→Option (ai×Int))(self:(List aj)×Int→Option (ai×Int))(st:(List aj)×Int):Option (ai×Int):=
 match st with
 |(l5,z6)=>
 bif (I.bf z6 n2)then
  (gI a0.af z6).bind fun x7=>
  (aP 48 l5 (⟨x7.name,x7.aI,[]⟩:aj)).bind fun l8=>
  self (l8,(I.wrap .i64 (I.add z6 1)))
 else
  k (l5,z6)
def qb(I:Pr)(M:Md)(n:Nat)(a0:ai):Option (ai×Int):=
 (dL I M n a0).bind fun y1=>
 bif (I.not (I.aS y1 0))then
 some ((⟨[]⟩:ai),y1)
 else
 (some (aw a0.af)).bind fun n2=>
 bif (I.bf 0 n2)then
  (gI a0.af 0).bind fun x3=>
  (aP 48 [] (⟨x3.name,x3.aI,[]⟩:aj)).bind fun l4=>
  iter (jI I M n a0 n2 (fun(l9,yS)=>
   (some (aw a0.af)).bind fun xa=>
   iter (jH I M n a0 l9 xa (fun(Tc,Tb,T6)=>
    (ei (M.ln l9) Tb).bind fun u67=>
    some ((⟨Tb⟩:ai),0))) n ([],l9,0))) n (l4,(I.wrap .i64 (I.add 0 1)))
 else
  none
def lI(I:Pr)(M:Md)(n:Nat)(a1:ai):Option ai:=
 (qb I M n (⟨a1.af⟩:ai)).bind fun y1=>
 some y1.1
def jM(I:Pr)(M:Md)(n:Nat)(xa:Int)(vE:ag)(k:(List Int)×Int→Option (List Int))(self:(List Int)×Int→Option (List Int))(st:(List Int)×Int):Option (List Int):=
 match st with
 |(ia,pa)=>
 bif (I.bf pa xa)then
  (gI vE.ops pa).bind fun wN=>
  bif (I.pick (I.bf wN.kind 1) true (I.bf 5 wN.kind))then
  (gN 6 0).bind fun Y8=>
  (gK ia Y8).bind fun UB=>
  (gD ia Y8 (I.wrap .i64 (I.add UB 1))).bind fun ua=>
  self (ua,(I.wrap .i64 (I.add pa 1)))
  else
  (gN 6 wN.kind).bind fun Xg=>
  (gK ia Xg).bind fun LL=>
  (gD ia Xg (I.wrap .i64 (I.add LL 1))).bind fun PO=>
  self (PO,(I.wrap .i64 (I.add pa 1)))
 else
  k (ia,pa)
def jN(I:Pr)(M:Md)(n:Nat)(n7:Int)(x6:aj)(k:(List Int)×Int→Option (List Int))(self:(List Int)×Int→Option (List Int))(st:(List Int)×Int):Option (List Int):=
 match st with
 |(l8,z9)=>
 bif (I.bf z9 n7)then
  (gI x6.ae z9).bind fun vE=>
  (some (aw vE.ops)).bind fun xa=>
  iter (jM I M n xa vE (fun(xP,D3)=>
   self (xP,(I.wrap .i64 (I.add z9 1))))) n (l8,0)
 else
  k (l8,z9)
def mC(I:Pr)(M:Md)(n:Nat)(a0:ai)(n3:Int)(k:(List Int)×Int→Option (List Int))(self:(List Int)×Int→Option (List Int))(st:(List Int)×Int):Option (List Int):=
 match st with
 |(l4,z5)=>
 bif (I.bf z5 n3)then
  (gI a0.af z5).bind fun x6=>
  (some (aw x6.ae)).bind fun n7=>
  iter (jN I M n n7 x6 (fun(yI,T9)=>
   self (yI,(I.wrap .i64 (I.add z5 1))))) n (l4,0)
 else
  k (l4,z5)
def nA(I:Pr)(M:Md)(n:Nat)(a0:ai):Option (List Int):=
 (some (List.replicate 6 (0:Int))).bind fun l1=>
 (some (List.replicate 6 (0:Int))).bind fun l2=>
 (some (aw a0.af)).bind fun n3=>
 iter (mC I M n a0 n3 (fun(HI,EG)=>
  (fe 6 HI).bind fun u27=>
  (fe 6 l1).bind fun u28=>
  (fe 6 HI).bind fun u29=>
  some HI)) n (l2,0)
def tN(I:Pr)(M:Md)(n:Nat)(a0:aD)(a1:aD):Option Bool:=
 (dp (I.pick (I.pick (I.aS a0.kind a1.kind) (I.seq a0.name a1.name) false) (I.aS a0.num a1.num) false) true (dZ I M n a0.args a1.args) default).bind fun y1=>
 some (I.pick (I.pick (I.pick (I.aS a0.kind a1.kind) (I.seq a0.name a1.name) false) (I.aS a0.num a1.num) false) y1 false)
def ej(I:Pr)(M:Md)(n:Nat)(a0:List aD)(a1:List aD)(n1:Int)(k:Int→Option Bool)(self:Int→Option Bool)(z3:Int):Option Bool:=
 bif (I.bf z3 n1)then
  (gI a0 z3).bind fun x4=>
  (gI a1 z3).bind fun x5=>
  (tN I M n x4 x5).bind fun y6=>
  bif (I.not y6)then
  some false
  else
  self (I.wrap .i64 (I.add z3 1))
 else
  k z3
def e8(I:Pr)(M:Md)(n:Nat)(a0:List aD)(a1:List aD):Option Bool:=
 (some (aw a0)).bind fun n1=>
 (some (aw a1)).bind fun n2=>
 bif (I.not (I.aS n1 n2))then
 some false
 else
 iter (ej I M n a0 a1 n1 (fun z7=>
  some true)) n 0
def oS(I:Pr)(M:Md)(n:Nat)(a0:ag)(a1:ag):Option Bool:=
 (dp (I.pick (I.pick (I.seq a0.head a1.head) (I.aS a0.aM a1.aM) false) (I.aS a0.result a1.result) false) true (e8 I M n a0.ops a1.ops) default).bind fun y1=>
 some (I.pick (I.pick (I.pick (I.seq a0.head a1.head) (I.aS a0.aM a1.aM) false) (I.aS a0.result a1.result) false) y1 false)
def dg(I:Pr)(M:Md)(n:Nat)(a0:List ag)(a1:List ag)(n1:Int)(k:Int→Option Bool)(self:Int→Option Bool)(z3:Int):Option Bool:=
 bif (I.bf z3 n1)then
  (gI a0 z3).bind fun x4=>
  (gI a1 z3).bind fun x5=>
  (oS I M n x4 x5).bind fun y6=>
  bif (I.not y6)then
  some false
  else
  self (I.wrap .i64 (I.add z3 1))
 else
  k z3
def dC(I:Pr)(M:Md)(n:Nat)(a0:List ag)(a1:List ag):Option Bool:=
 (some (aw a0)).bind fun n1=>
 (some (aw a1)).bind fun n2=>
 bif (I.not (I.aS n1 n2))then
 some false
 else
 iter (dg I M n a0 a1 n1 (fun z7=>
  some true)) n 0
def oR(I:Pr)(M:Md)(n:Nat)(a0:aj)(a1:aj):Option Bool:=
 (dp (I.pick (I.seq a0.name a1.name) (I.aS a0.aI a1.aI) false) true (dC I M n a0.ae a1.ae) default).bind fun y1=>
 some (I.pick (I.pick (I.seq a0.name a1.name) (I.aS a0.aI a1.aI) false) y1 false)
def dv(I:Pr)(M:Md)(n:Nat)(a0:List aj)(a1:List aj)(n1:Int)(k:Int→Option Bool)(self:Int→Option Bool)(z3:Int):Option Bool:=
 bif (I.bf z3 n1)then
  (gI a0 z3).bind fun x4=>
  (gI a1 z3).bind fun x5=>
  (oR I M n x4 x5).bind fun y6=>
  bif (I.not y6)then
  some false
  else
  self (I.wrap .i64 (I.add z3 1))
 else
  k z3
def dY(I:Pr)(M:Md)(n:Nat)(a0:List aj)(a1:List aj):Option Bool:=
 (some (aw a0)).bind fun n1=>
 (some (aw a1)).bind fun n2=>
 bif (I.not (I.aS n1 n2))then
 some false
 else
 iter (dv I M n a0 a1 n1 (fun z7=>
  some true)) n 0
def ll(I:Pr)(M:Md)(n:Nat)(a0:ai)(a1:ai):Option Bool:=
 (nA I M n (⟨a0.af⟩:ai)).bind fun y1=>
 (nA I M n (⟨a1.af⟩:ai)).bind fun y2=>
 (fe 6 y1).bind fun u3=>
 (fe 6 y2).bind fun u4=>
 (some (decide (y1=y2))).bind fun b5=>
 (dp b5 true (dY I M n a0.af a1.af) default).bind fun y6=>
 some (I.pick b5 y6 false)
def ov(I:Pr)(M:Md)(n:Nat)(k:(List aj)×Int×Int→Option (ai×Int×Int))(self:(List aj)×Int×Int→Option (ai×Int×Int))(st:(List aj)×Int×Int):Option (ai×Int×Int):=
 match st with
 |(l3,z4,z5)=>
 bif (I.bf z4 20)then
  (lM I M n (⟨l3⟩:ai)).bind fun y6=>
  (lL I M n y6).bind fun y7=>
  (lK I M n y7).bind fun y8=>
  (lJ I M n y8).bind fun y9=>
  (lI I M n y9).bind fun wY=>
  (ll I M n wY (⟨l3⟩:ai)).bind fun wL=>
  bif wL then
  k (l3,z4,z5)
  else
  self (wY.af,(I.wrap .i64 (I.add z4 1)),(I.wrap .i64 (I.add z5 1)))
 else
  k (l3,z4,z5)
def pz(I:Pr)(M:Md)(n:Nat)(a0:ai):Option (ai×Int×Int):=
 (dL I M n a0).bind fun y1=>
 bif (I.not (I.aS y1 0))then
 some ((⟨[]⟩:ai),0,y1)
 else
 (vV I M n a0).bind fun y2=>
 iter (ov I M n (fun(ia,pa,eU)=>
  some ((⟨ia⟩:ai),eU,0))) n (y2.af,0,0)
def MY(I:Pr)(M:Md)(n:Nat)(a0:ByteArray)(a1:Int)(a2:Int)(a3:List aD):Option ag:=
 some (⟨a0,a1,a3,a2⟩:ag)
def Ag(I:Pr)(M:Md)(n:Nat):Option ai:=
 (bY I M n 2 (⟨#[]⟩:ByteArray) 0 []).bind fun y1=>
 (MY I M n (⟨#[115]⟩:ByteArray) 1 0 ([y1])).bind fun y2=>
 (cL I M n (⟨#[102]⟩:ByteArray) 1 ([y2])).bind fun y3=>
 (bY I M n 3 (⟨#[97]⟩:ByteArray) 0 []).bind fun y4=>
 (bY I M n 3 (⟨#[115]⟩:ByteArray) 0 ([0])).bind fun y5=>
 (bY I M n 5 (⟨#[102]⟩:ByteArray) 0 ([1])).bind fun y6=>
 (dH I M n 2 ([y4,y5,y6])).bind fun y7=>
 (cL I M n (⟨#[103]⟩:ByteArray) 0 y7).bind fun y8=>
 (sx I M n ([y3,y8])).bind fun y9=>
 some y9
def tE(I:Pr)(M:Md)(n:Nat)(a0:List Int):Option (List Int):=
 (Lh 8 [] a0).bind fun l1=>
 some l1
def nu(I:Pr)(M:Md)(n:Nat)(n9:Int)(x8:ag)(k:(List aD)×Int→Option ai)(self:(List aD)×Int→Option ai)(st:(List aD)×Int):Option ai:=
 match st with
 |(l10,H5)=>
 bif (I.bf H5 n9)then
  (gI x8.ops H5).bind fun wO=>
  (tE I M n wO.args).bind fun sP=>
  (aP 56 l10 (⟨wO.kind,wO.name,wO.num,sP⟩:aD)).bind fun Rp=>
  self (Rp,(I.wrap .i64 (I.add H5 1)))
 else
  k (l10,H5)
def nv(I:Pr)(M:Md)(n:Nat)(n5:Int)(x4:aj)(k:(List ag)×Int→Option ai)(self:(List ag)×Int→Option ai)(st:(List ag)×Int):Option ai:=
 match st with
 |(l6,z7)=>
 bif (I.bf z7 n5)then
  (gI x4.ae z7).bind fun x8=>
  (some (aw x8.ops)).bind fun n9=>
  iter (nu I M n n9 x8 (fun(yX,lD)=>
   (aP 56 l6 (⟨x8.head,x8.aM,yX,x8.result⟩:ag)).bind fun ua=>
   self (ua,(I.wrap .i64 (I.add z7 1))))) n ([],0)
 else
  k (l6,z7)
def qg(I:Pr)(M:Md)(n:Nat)(a0:ai)(n1:Int)(k:(List aj)×Int→Option ai)(self:(List aj)×Int→Option ai)(st:(List aj)×Int):Option ai:=
 match st with
 |(l2,z3)=>
 bif (I.bf z3 n1)then
  (gI a0.af z3).bind fun x4=>
  (some (aw x4.ae)).bind fun n5=>
  iter (nv I M n n5 x4 (fun(rJ,fh)=>
   (aP 48 l2 (⟨x4.name,x4.aI,rJ⟩:aj)).bind fun PO=>
   self (PO,(I.wrap .i64 (I.add z3 1))))) n ([],0)
 else
  k (l2,z3)
def rI(I:Pr)(M:Md)(n:Nat)(a0:ai):Option ai:=
 (some (aw a0.af)).bind fun n1=>
 iter (qg I M n a0 n1 (fun(xP,D3)=>
  some (⟨xP⟩:ai))) n ([],0)
def vA(I:Pr)(M:Md)(n:Nat)(a0:ai)(a1:ByteArray):Option (Int×Int):=
 (dL I M n a0).bind fun y1=>
 bif (I.not (I.aS y1 0))then
 some (0,y1)
 else
 (di I M n a1 a0).bind fun y2=>
 bif (I.bf y2 0)then
  some (0,1)
 else
  some (y2,0)
def qX(I:Pr)(M:Md)(n:Nat)(a0:aD)(a1:aD)(a2:ai)(a3:List Int):Option Bool:=
 (dp (I.pick (I.not (I.aS a0.kind a1.kind)) true (I.not (I.aS a0.num a1.num))) false (dZ I M n a0.args a1.args) default).bind fun y1=>
 bif (I.pick (I.pick (I.not (I.aS a0.kind a1.kind)) true (I.not (I.aS a0.num a1.num))) true (I.not y1))then
 some false
 else
 (gH I M n a0).bind fun y2=>
 bif (I.not y2)then
  some (I.seq a0.name a1.name)
 else
  (vA I M n a2 a0.name).bind fun y3=>
  (vA I M n a2 a1.name).bind fun y4=>
  (fe 12 a3).bind fun u5=>
  (gI a3 y3.1).bind fun x6=>
  (gI a3 y4.1).bind fun x7=>
  some (I.aS x6 x7)
def lY(I:Pr)(M:Md)(n:Nat)(a0:List aD)(a1:List aD)(Db:ai)(Da:List Int)(n1:Int)(k:Int→Option Bool)(self:Int→Option Bool)(z3:Int):Option Bool:=
 bif (I.bf z3 n1)then
  (gI a0 z3).bind fun x4=>
  (gI a1 z3).bind fun x5=>
  (qX I M n x4 x5 Db Da).bind fun y6=>
  bif (I.not y6)then
  some false
  else
  self (I.wrap .i64 (I.add z3 1))
 else
  k z3
def nT(I:Pr)(M:Md)(n:Nat)(a0:List aD)(a1:List aD)(Db:ai)(Da:List Int):Option Bool:=
 (some (aw a0)).bind fun n1=>
 (some (aw a1)).bind fun n2=>
 bif (I.not (I.aS n1 n2))then
 some false
 else
 iter (lY I M n a0 a1 Db Da n1 (fun z7=>
  some true)) n 0
def xD(I:Pr)(M:Md)(n:Nat)(a0:ai)(a1:List Int)(a2:ag)(a3:ag):Option Bool:=
 (dp (I.pick (I.pick (I.seq a2.head a3.head) (I.aS a2.aM a3.aM) false) (I.aS a2.result a3.result) false) true (nT I M n a2.ops a3.ops (⟨a0.af⟩:ai) a1) default).bind fun y1=>
 some (I.pick (I.pick (I.pick (I.seq a2.head a3.head) (I.aS a2.aM a3.aM) false) (I.aS a2.result a3.result) false) y1 false)
def pg(I:Pr)(M:Md)(n:Nat)(a0:ag)(a1:ag)(a2:ai)(a3:List Int):Option Bool:=
 (fe 12 a3).bind fun u1=>
 (xD I M n a2 a3 a0 a1).bind fun y2=>
 some y2
def js(I:Pr)(M:Md)(n:Nat)(a0:List ag)(a1:List ag)(Db:ai)(Da:List Int)(n1:Int)(k:Int→Option Bool)(self:Int→Option Bool)(z3:Int):Option Bool:=
 bif (I.bf z3 n1)then
  (gI a0 z3).bind fun x4=>
  (gI a1 z3).bind fun x5=>
  (pg I M n x4 x5 Db Da).bind fun y6=>
  bif (I.not y6)then
  some false
  else
  self (I.wrap .i64 (I.add z3 1))
 else
  k z3
def kg(I:Pr)(M:Md)(n:Nat)(a0:List ag)(a1:List ag)(Db:ai)(Da:List Int):Option Bool:=
 (some (aw a0)).bind fun n1=>
 (some (aw a1)).bind fun n2=>
 bif (I.not (I.aS n1 n2))then
 some false
 else
 iter (js I M n a0 a1 Db Da n1 (fun z7=>
  some true)) n 0
def qY(I:Pr)(M:Md)(n:Nat)(a0:aj)(a1:ai)(a2:List Int)(a3:Int)(a4:aj):Option Bool:=
 (vA I M n a1 a0.name).bind fun y1=>
 (fe 12 a2).bind fun u2=>
 (gI a2 y1.1).bind fun x3=>
 (gI a2 a3).bind fun x4=>
 (dp (I.pick (I.aS x3 x4) (I.aS a0.aI a4.aI) false) true (kg I M n a0.ae a4.ae (⟨a1.af⟩:ai) a2) default).bind fun y5=>
 some (I.pick (I.pick (I.aS x3 x4) (I.aS a0.aI a4.aI) false) y5 false)
def jS(I:Pr)(M:Md)(n:Nat)(a0:List aj)(bn:ai)(xj:List Int)(T1:Int)(T0:aj)(n1:Int)(k:Int→Option Int)(self:Int→Option Int)(z2:Int):Option Int:=
 bif (I.bf z2 n1)then
  (gI a0 z2).bind fun x3=>
  (qY I M n x3 bn xj T1 T0).bind fun y4=>
  bif y4 then
  some z2
  else
  self (I.wrap .i64 (I.add z2 1))
 else
  k z2
def ly(I:Pr)(M:Md)(n:Nat)(a0:List aj)(bn:ai)(xj:List Int)(T1:Int)(T0:aj):Option Int:=
 (some (aw a0)).bind fun n1=>
 iter (jS I M n a0 bn xj T1 T0 n1 (fun z5=>
  some (-1))) n 0
def uK(I:Pr)(M:Md)(n:Nat)(a0:ai)(l3:List Int)(n5:Int)(k:(List Int)×Int→Option (List Int))(self:(List Int)×Int→Option (List Int))(st:(List Int)×Int):Option (List Int):=
 match st with
 |(l6,z7)=>
 bif (I.bf z7 n5)then
  (gI a0.af z7).bind fun x8=>
  (GZ a0.af 0 (I.wrap .i64 (I.add z7 1))).bind fun l9=>
  (ly I M n l9 (⟨a0.af⟩:ai) l3 z7 x8).bind fun wY=>
  (gN 12 z7).bind fun k11=>
  (gK l6 k11).bind fun wO=>
  (gD l6 k11 wY).bind fun yY=>
  self (yY,(I.wrap .i64 (I.add z7 1)))
 else
  k (l6,z7)
def uL(I:Pr)(M:Md)(n:Nat)(a0:ai)(l1:List Int)(self:(List Int)→Option (List Int))(l3:(List Int)):Option (List Int):=
 (some (List.replicate 12 (0:Int))).bind fun l4=>
 (some (aw a0.af)).bind fun n5=>
 iter (uK I M n a0 l3 n5 (fun(Rp,wX)=>
  (fe 12 Rp).bind fun u16=>
  (fe 12 l3).bind fun u17=>
  (fe 12 Rp).bind fun u18=>
  (fe 12 l3).bind fun u19=>
  (some (decide (Rp=l3))).bind fun b20=>
  bif b20 then
   (fe 12 l3).bind fun u21=>
   (fe 12 l1).bind fun Zs=>
   (fe 12 l3).bind fun Sh=>
   some l3
  else
   (fe 12 Rp).bind fun YY=>
   (fe 12 l3).bind fun UO=>
   self Rp)) n (l4,0)
def sf(I:Pr)(M:Md)(n:Nat)(a0:ai):Option (List Int):=
 (some (List.replicate 12 (0:Int))).bind fun l1=>
 (some (List.replicate 12 (0:Int))).bind fun l2=>
 iter (uL I M n a0 l1) n l2
def xJ(I:Pr)(M:Md)(n:Nat)(a0:ai):Option ((List Int)×Int):=
 (dL I M n a0).bind fun y1=>
 bif (I.not (I.aS y1 0))then
 some ([],y1)
 else
 (sf I M n (⟨a0.af⟩:ai)).bind fun y2=>
 (some (List.replicate 12 (0:Int))).bind fun l3=>
 (fe 12 l3).bind fun u4=>
 (some (aw a0.af)).bind fun n5=>
 (ado 12 n5 y2).bind fun j6=>
 (pt I M n (y2.take j6)).bind fun y7=>
 some (y7,0)
def xF(I:Pr)(M:Md)(n:Nat)(a0:ai)(n25:Int)(yt:ag)(y2:List Int)(k:(List aD)×(List Int)×Int→Option (ai×Int))(self:(List aD)×(List Int)×Int→Option (ai×Int))(st:(List aD)×(List Int)×Int):Option (ai×Int):=
 match st with
 |(KE,re,Lo)=>
 bif (I.bf Lo n25)then
  (gI yt.ops Lo).bind fun rF=>
  (
  (gH I M n rF).bind fun y32=>
  bif y32 then
   (vA I M n a0 rF.name).bind fun yT=>
   (gN 12 yT.1).bind fun k34=>
   (gK y2 k34).bind fun rm=>
   (gI a0.af rm).bind fun Ju=>
   (
   (bM I M n yt.head yt.aM KE 0 re rF.args).bind fun Uv=>
   (some (aw Uv)).bind fun n40=>
   (vZ 8 n40 0).bind fun Ue=>
   (some (kO (M.ln Ue) Uv Ue)).bind fun Ee=>
   (some (oY (M.ln Ue) Uv)).bind fun n43=>
   bif (I.aS n40 0)then
    (aP 56 KE (⟨rF.kind,Ju.name,rF.num,[]⟩:aD)).bind fun HG=>
    (some (aw HG)).bind fun MO=>
    some ((I.wrap .i64 (I.sub MO 1)),HG)
   else
    (ei (M.ln Ue) Ee).bind fun u46=>
    (aP 56 KE (⟨rF.kind,Ju.name,rF.num,Ee⟩:aD)).bind fun PN=>
    (some (aw PN)).bind fun N0=>
    some ((I.wrap .i64 (I.sub N0 1)),PN)).bind fun(HJ,wh)=>
   (aP 8 re HJ).bind fun Xa=>
   some (wh,Xa)
  else
   (
   (bM I M n yt.head yt.aM KE 0 re rF.args).bind fun H7=>
   (some (aw H7)).bind fun n53=>
   (vZ 8 n53 0).bind fun IJ=>
   (some (kO (M.ln IJ) H7 IJ)).bind fun Ud=>
   (some (oY (M.ln IJ) H7)).bind fun n56=>
   bif (I.aS n53 0)then
    (aP 56 KE (⟨rF.kind,rF.name,rF.num,[]⟩:aD)).bind fun W9=>
    (some (aw W9)).bind fun WW=>
    some ((I.wrap .i64 (I.sub WW 1)),W9)
   else
    (ei (M.ln IJ) Ud).bind fun u59=>
    (aP 56 KE (⟨rF.kind,rF.name,rF.num,Ud⟩:aD)).bind fun Rn=>
    (some (aw Rn)).bind fun n61=>
    some ((I.wrap .i64 (I.sub n61 1)),Rn)).bind fun(j50,j51)=>
   (aP 8 re j50).bind fun PK=>
   some (j51,PK)).bind fun(j30,Xi)=>
  self (j30,Xi,(I.wrap .i64 (I.add Lo 1)))
 else
  k (KE,re,Lo)
def xG(I:Pr)(M:Md)(n:Nat)(a0:ai)(ia:List aj)(Uc:Int)(sQ:aj)(y2:List Int)(lD:Int)(k:(List aj)×Int→Option (ai×Int))(self:(List aj)×Int→Option (ai×Int))(st:(List aj)×Int):Option (ai×Int):=
 match st with
 |(KF,Di)=>
 bif (I.bf Di Uc)then
  (gI sQ.ae Di).bind fun yt=>
  (some (List.replicate 2 (0:Int))).bind fun IL=>
  (fe 2 IL).bind fun Sh=>
  (fe 2 ([lD,Di])).bind fun YY=>
  (some (aw yt.ops)).bind fun n25=>
  iter (xF I M n a0 n25 yt y2 (fun(l63,Tc,T7)=>
   (gI Tc yt.result).bind fun x66=>
   (gN 2 0).bind fun k67=>
   (gK ([lD,Di]) k67).bind fun Zn=>
   (gN (M.ln ia) Zn).bind fun Y7=>
   (gK KF Y7).bind fun Zm=>
   (aP 56 Zm.ae (⟨yt.head,yt.aM,l63,x66⟩:ag)).bind fun KB=>
   (gD KF Y7 (⟨Zm.name,Zm.aI,KB⟩:aj)).bind fun l72=>
   self (l72,(I.wrap .i64 (I.add Di 1))))) n ([],[],0)
 else
  k (KF,Di)
def xE(I:Pr)(M:Md)(n:Nat)(ia:List aj)(l75:List aj)(Y2:Int)(y2:List Int)(k:(List aj)×Int→Option (ai×Int))(self:(List aj)×Int→Option (ai×Int))(st:(List aj)×Int):Option (ai×Int):=
 match st with
 |(KA,Us)=>
 bif (I.bf Us Y2)then
  (gN (M.ln ia) Us).bind fun k80=>
  (gK l75 k80).bind fun x81=>
  (gN 12 Us).bind fun k82=>
  (gK y2 k82).bind fun x83=>
  bif (I.aS x83 Us)then
  (aP 48 KA x81).bind fun BZ=>
  self (BZ,(I.wrap .i64 (I.add Us 1)))
  else
  self (KA,(I.wrap .i64 (I.add Us 1)))
 else
  k (KA,Us)
def xH(I:Pr)(M:Md)(n:Nat)(a0:ai)(ia:List aj)(MP:Int)(y2:List Int)(k:(List aj)×Int→Option (ai×Int))(self:(List aj)×Int→Option (ai×Int))(st:(List aj)×Int):Option (ai×Int):=
 match st with
 |(yX,lD)=>
 bif (I.bf lD MP)then
  (gI a0.af lD).bind fun sQ=>
  (some (aw sQ.ae)).bind fun Uc=>
  iter (xG I M n a0 ia Uc sQ y2 lD (fun(W8,z74)=>
   self (W8,(I.wrap .i64 (I.add lD 1))))) n (yX,0)
 else
  k (yX,lD)
def xI(I:Pr)(M:Md)(n:Nat)(a0:ai)(n5:Int)(k:(List aj)×Int→Option (ai×Int))(self:(List aj)×Int→Option (ai×Int))(st:(List aj)×Int):Option (ai×Int):=
 match st with
 |(l8,z9)=>
 bif (I.bf z9 n5)then
  (gI a0.af z9).bind fun vE=>
  (aP 48 l8 (⟨vE.name,vE.aI,[]⟩:aj)).bind fun AD=>
  self (AD,(I.wrap .i64 (I.add z9 1)))
 else
  k (l8,z9)
def A0(I:Pr)(M:Md)(n:Nat)(a0:ai):Option (ai×Int):=
 (dL I M n a0).bind fun y1=>
 bif (I.not (I.aS y1 0))then
 some ((⟨[]⟩:ai),y1)
 else
 (sf I M n a0).bind fun y2=>
 (some (List.replicate 12 (0:Int))).bind fun l3=>
 (fe 12 l3).bind fun u4=>
 (some (aw a0.af)).bind fun n5=>
 bif (I.bf 0 n5)then
  (gI a0.af 0).bind fun x6=>
  (aP 48 [] (⟨x6.name,x6.aI,[]⟩:aj)).bind fun l7=>
  iter (xI I M n a0 n5 (fun(ia,pa)=>
   (some (aw a0.af)).bind fun MP=>
   iter (xH I M n a0 ia MP y2 (fun(l75,z76)=>
    (some ((((M.ln ia):Nat):Int))).bind fun Y2=>
    iter (xE I M n ia l75 Y2 y2 (fun(DL,Lx)=>
     some ((⟨DL⟩:ai),0))) n ([],0))) n (ia,0))) n (l7,(I.wrap .i64 (I.add 0 1)))
 else
  none
def qf(I:Pr)(M:Md)(n:Nat):Option Bool:=
 (rH I M n).bind fun y1=>
 (ml I M n (⟨y1.af⟩:ai)).bind fun y2=>
 (rH I M n).bind fun y3=>
 (mm I M n (⟨y3.af⟩:ai)).bind fun y4=>
 (rH I M n).bind fun y5=>
 (pz I M n (⟨y5.af⟩:ai)).bind fun y6=>
 (Ag I M n).bind fun y7=>
 (ou I M n y7).bind fun y8=>
 (qb I M n y8.1).bind fun y9=>
 (v8 I M n).bind fun wY=>
 (xJ I M n (⟨wY.af⟩:ai)).bind fun wL=>
 (v8 I M n).bind fun EI=>
 (A0 I M n EI).bind fun sP=>
 (bY I M n 3 (⟨#[97]⟩:ByteArray) 0 []).bind fun Lz=>
 (bY I M n 5 (⟨#[111,110,101,115]⟩:ByteArray) 0 []).bind fun H8=>
 (bY I M n 3 (⟨#[99,111,110,115]⟩:ByteArray) 0 ([0,1])).bind fun Ji=>
 (dH I M n 2 ([Lz,H8,Ji])).bind fun y17=>
 (cL I M n (⟨#[111,110,101,115]⟩:ByteArray) 0 y17).bind fun Uw=>
 (bY I M n 1 (⟨#[]⟩:ByteArray) 0 []).bind fun y19=>
 (dH I M n 0 ([y19])).bind fun R7=>
 (cL I M n (⟨#[105,100]⟩:ByteArray) 1 R7).bind fun y21=>
 (bY I M n 4 (⟨#[111,110,101,115]⟩:ByteArray) 0 []).bind fun y22=>
 (bY I M n 5 (⟨#[105,100]⟩:ByteArray) 0 ([0])).bind fun y23=>
 (bY I M n 5 (⟨#[111,110,101,115]⟩:ByteArray) 0 []).bind fun y24=>
 (bY I M n 3 (⟨#[112]⟩:ByteArray) 0 ([1,2])).bind fun y25=>
 (dH I M n 3 ([y22,y23,y24,y25])).bind fun y26=>
 (cL I M n (⟨#[116,119,111]⟩:ByteArray) 0 y26).bind fun y27=>
 (bY I M n 4 (⟨#[111,110,101,115]⟩:ByteArray) 0 []).bind fun YU=>
 (bY I M n 5 (⟨#[111,110,101,115]⟩:ByteArray) 0 []).bind fun y29=>
 (bY I M n 3 (⟨#[112]⟩:ByteArray) 0 ([0,1])).bind fun Lp=>
 (dH I M n 2 ([YU,y29,Lp])).bind fun Od=>
 (cL I M n (⟨#[116,119,111]⟩:ByteArray) 0 Od).bind fun y32=>
 (gN 3 2).bind fun k33=>
 (gK ([Uw,y21,y27]) k33).bind fun x34=>
 (gD ([Uw,y21,y27]) k33 y32).bind fun l35=>
 (some (l35.take 3)).bind fun w36=>
 (bY I M n 3 (⟨#[97]⟩:ByteArray) 0 []).bind fun y37=>
 (bY I M n 5 (⟨#[111,110,101,115]⟩:ByteArray) 0 []).bind fun y38=>
 (bY I M n 3 (⟨#[99,111,110,115]⟩:ByteArray) 0 ([0,1])).bind fun Uv=>
 (dH I M n 2 ([y37,y38,Uv])).bind fun AH=>
 (cL I M n (⟨#[111,110,101,115]⟩:ByteArray) 0 AH).bind fun Ub=>
 (bY I M n 1 (⟨#[]⟩:ByteArray) 0 []).bind fun y42=>
 (dH I M n 0 ([y42])).bind fun y43=>
 (cL I M n (⟨#[105,100]⟩:ByteArray) 1 y43).bind fun y44=>
 (bY I M n 4 (⟨#[111,110,101,115]⟩:ByteArray) 0 []).bind fun y45=>
 (bY I M n 5 (⟨#[105,100]⟩:ByteArray) 0 ([0])).bind fun y46=>
 (bY I M n 5 (⟨#[111,110,101,115]⟩:ByteArray) 0 []).bind fun y47=>
 (bY I M n 3 (⟨#[112]⟩:ByteArray) 0 ([1,2])).bind fun y48=>
 (dH I M n 3 ([y45,y46,y47,y48])).bind fun y49=>
 (cL I M n (⟨#[116,119,111]⟩:ByteArray) 0 y49).bind fun Zk=>
 (bY I M n 5 (⟨#[111,110,101,115]⟩:ByteArray) 0 []).bind fun Ua=>
 (bY I M n 3 (⟨#[112]⟩:ByteArray) 0 ([0,0])).bind fun H7=>
 (dH I M n 1 ([Ua,H7])).bind fun YT=>
 (cL I M n (⟨#[116,119,111]⟩:ByteArray) 0 YT).bind fun YS=>
 (gK ([Ub,y44,Zk]) k33).bind fun x55=>
 (gD ([Ub,y44,Zk]) k33 YS).bind fun PL=>
 (some (PL.take 3)).bind fun w57=>
 (Ag I M n).bind fun y58=>
 (gI y58.af 0).bind fun x59=>
 (bY I M n 3 (⟨#[97]⟩:ByteArray) 0 []).bind fun y60=>
 (dH I M n 0 ([y60])).bind fun y61=>
 (cL I M n (⟨#[103]⟩:ByteArray) 0 y61).bind fun y62=>
 (sx I M n ([x59,y62])).bind fun y63=>
 (dp (I.pick (I.pick (I.pick (I.pick (I.pick (I.pick (I.aS y2.2 0) (I.aS y4.2 0) false) (I.aS y6.2.2 0) false) (I.aS y8.2 0) false) (I.aS y9.2 0) false) (I.aS wL.2 0) false) (I.aS sP.2 0) false) true (rH I M n) default).bind fun y64=>
 (dp (I.pick (I.pick (I.pick (I.pick (I.pick (I.pick (I.aS y2.2 0) (I.aS y4.2 0) false) (I.aS y6.2.2 0) false) (I.aS y8.2 0) false) (I.aS y9.2 0) false) (I.aS wL.2 0) false) (I.aS sP.2 0) false) true (ll I M n y2.1 y64) default).bind fun Uu=>
 (dp (I.pick (I.pick (I.pick (I.pick (I.pick (I.pick (I.pick (I.aS y2.2 0) (I.aS y4.2 0) false) (I.aS y6.2.2 0) false) (I.aS y8.2 0) false) (I.aS y9.2 0) false) (I.aS wL.2 0) false) (I.aS sP.2 0) false) Uu false) true (ll I M n y4.1 (⟨w36⟩:ai)) default).bind fun YR=>
 (dp (I.pick (I.pick (I.pick (I.pick (I.pick (I.pick (I.pick (I.pick (I.aS y2.2 0) (I.aS y4.2 0) false) (I.aS y6.2.2 0) false) (I.aS y8.2 0) false) (I.aS y9.2 0) false) (I.aS wL.2 0) false) (I.aS sP.2 0) false) Uu false) YR false) true (ll I M n y6.1 (⟨w57⟩:ai)) default).bind fun Zj=>
 (dp (I.pick (I.pick (I.pick (I.pick (I.pick (I.pick (I.pick (I.pick (I.pick (I.pick (I.aS y2.2 0) (I.aS y4.2 0) false) (I.aS y6.2.2 0) false) (I.aS y8.2 0) false) (I.aS y9.2 0) false) (I.aS wL.2 0) false) (I.aS sP.2 0) false) Uu false) YR false) Zj false) (I.aS y6.2.1 2) false) true (ll I M n y9.1 y63) default).bind fun y68=>
 (dp (I.pick (I.pick (I.pick (I.pick (I.pick (I.pick (I.pick (I.pick (I.pick (I.pick (I.pick (I.aS y2.2 0) (I.aS y4.2 0) false) (I.aS y6.2.2 0) false) (I.aS y8.2 0) false) (I.aS y9.2 0) false) (I.aS wL.2 0) false) (I.aS sP.2 0) false) Uu false) YR false) Zj false) (I.aS y6.2.1 2) false) y68 false) true (dZ I M n wL.1 ([0,0])) default).bind fun y69=>
 (dp (I.pick (I.pick (I.pick (I.pick (I.pick (I.pick (I.pick (I.pick (I.pick (I.pick (I.pick (I.pick (I.aS y2.2 0) (I.aS y4.2 0) false) (I.aS y6.2.2 0) false) (I.aS y8.2 0) false) (I.aS y9.2 0) false) (I.aS wL.2 0) false) (I.aS sP.2 0) false) Uu false) YR false) Zj false) (I.aS y6.2.1 2) false) y68 false) y69 false) true (v8 I M n) default).bind fun y70=>
 (dp (I.pick (I.pick (I.pick (I.pick (I.pick (I.pick (I.pick (I.pick (I.pick (I.pick (I.pick (I.pick (I.aS y2.2 0) (I.aS y4.2 0) false) (I.aS y6.2.2 0) false) (I.aS y8.2 0) false) (I.aS y9.2 0) false) (I.aS wL.2 0) false) (I.aS sP.2 0) false) Uu false) YR false) Zj false) (I.aS y6.2.1 2) false) y68 false) y69 false) true (gI y70.af 0) default).bind fun x71=>
 (dp (I.pick (I.pick (I.pick (I.pick (I.pick (I.pick (I.pick (I.pick (I.pick (I.pick (I.pick (I.pick (I.aS y2.2 0) (I.aS y4.2 0) false) (I.aS y6.2.2 0) false) (I.aS y8.2 0) false) (I.aS y9.2 0) false) (I.aS wL.2 0) false) (I.aS sP.2 0) false) Uu false) YR false) Zj false) (I.aS y6.2.1 2) false) y68 false) y69 false) true (sx I M n ([x71])) default).bind fun y72=>
 (dp (I.pick (I.pick (I.pick (I.pick (I.pick (I.pick (I.pick (I.pick (I.pick (I.pick (I.pick (I.pick (I.aS y2.2 0) (I.aS y4.2 0) false) (I.aS y6.2.2 0) false) (I.aS y8.2 0) false) (I.aS y9.2 0) false) (I.aS wL.2 0) false) (I.aS sP.2 0) false) Uu false) YR false) Zj false) (I.aS y6.2.1 2) false) y68 false) y69 false) true (ll I M n sP.1 y72) default).bind fun y73=>
 some (I.pick (I.pick (I.pick (I.pick (I.pick (I.pick (I.pick (I.pick (I.pick (I.pick (I.pick (I.pick (I.pick (I.aS y2.2 0) (I.aS y4.2 0) false) (I.aS y6.2.2 0) false) (I.aS y8.2 0) false) (I.aS y9.2 0) false) (I.aS wL.2 0) false) (I.aS sP.2 0) false) Uu false) YR false) Zj false) (I.aS y6.2.1 2) false) y68 false) y69 false) y73 false)
def fm(I:Pr)(M:Md)(n:Nat)(a0:Int)(a1:Int)(a2:Int):Option Bool:=
 some (I.pick (I.bf a0 a1) true (I.bf a2 a0))
def Cm(I:Pr)(M:Md)(n:Nat)(a0:Int)(a1:Int)(a2:Int):Option Bool:=
 some (I.pick (I.bf a0 a1) true (I.bf a2 a0))
def pU(I:Pr)(M:Md)(n:Nat)(a0:ByteArray)(k:Int→Option Bool)(self:Int→Option Bool)(z3:Int):Option Bool:=
 (some (nH a0)).bind fun n4=>
 bif (I.bf z3 n4)then
  (gB a0 z3).bind fun x5=>
  (dp (I.bf x5 97) false (gB a0 z3) default).bind fun x6=>
  bif (I.pick (I.bf x5 97) true (I.bf 122 x6))then
  some false
  else
  self (I.wrap .i64 (I.add z3 1))
 else
  k z3
def ni(I:Pr)(M:Md)(n:Nat)(a0:ByteArray):Option Bool:=
 (some (nH a0)).bind fun n1=>
 (Cm I M n n1 1 8).bind fun y2=>
 bif y2 then
 some false
 else
 iter (pU I M n a0 (fun z7=>
  some true)) n 0
def fC(I:Pr)(M:Md)(n:Nat)(a0:aj)(EG:Int)(k:Int→Option Int)(self:Int→Option Int)(Lo:Int):Option Int:=
 bif (I.bf Lo EG)then
  (gI a0.ae EG).bind fun rF=>
  (gI a0.ae Lo).bind fun gO=>
  (dp (I.seq rF.head gO.head) true (gI a0.ae EG) default).bind fun x31=>
  (dp (I.seq rF.head gO.head) true (gI a0.ae Lo) default).bind fun Zo=>
  bif (I.pick (I.seq rF.head gO.head) (I.aS x31.aM Zo.aM) false)then
  some 5
  else
  self (I.wrap .i64 (I.add Lo 1))
 else
  k Lo
def eb(I:Pr)(M:Md)(n:Nat)(a0:aj)(k:Int→Option Int)(self:Int→Option Int)(EG:Int):Option Int:=
 (some (aw a0.ae)).bind fun n27=>
 bif (I.bf EG n27)then
  iter (fC I M n a0 EG (fun z33=>
   self (I.wrap .i64 (I.add EG 1)))) n 0
 else
  k EG
def fD(I:Pr)(M:Md)(n:Nat)(a0:aj)(k:Int→Option Int)(self:Int→Option Int)(D3:Int):Option Int:=
 (some (aw a0.ae)).bind fun n23=>
 bif (I.bf D3 n23)then
  (gI a0.ae D3).bind fun LK=>
  bif (I.pick (I.pick (I.seq LK.head (⟨#[]⟩:ByteArray)) (I.pick (I.bf 1 n23) true (I.not (I.aS LK.aM 0))) false) true (I.pick (I.not (I.seq LK.head (⟨#[]⟩:ByteArray))) (I.aS a0.aI 0) false))then
  some 7
  else
  self (I.wrap .i64 (I.add D3 1))
 else
  k D3
def fE(I:Pr)(M:Md)(n:Nat)(a0:aj)(k:Int→Option Int)(self:Int→Option Int)(lD:Int):Option Int:=
 (some (aw a0.ae)).bind fun WY=>
 bif (I.bf lD WY)then
  (gI a0.ae lD).bind fun yU=>
  (dp (I.not (I.seq yU.head (⟨#[]⟩:ByteArray))) true (gI a0.ae lD) default).bind fun LL=>
  (dp (I.not (I.seq yU.head (⟨#[]⟩:ByteArray))) true (ni I M n LL.head) default).bind fun R7=>
  bif (I.pick (I.not (I.seq yU.head (⟨#[]⟩:ByteArray))) (I.not R7) false)then
  some 4
  else
  self (I.wrap .i64 (I.add lD 1))
 else
  k lD
def fF(I:Pr)(M:Md)(n:Nat)(a0:aj)(k:Int→Option Int)(self:Int→Option Int)(yS:Int):Option Int:=
 (some (aw a0.ae)).bind fun xa=>
 bif (I.bf yS xa)then
  (gI a0.ae yS).bind fun wO=>
  (fm I M n wO.aM 0 4).bind fun sP=>
  bif sP then
  some 3
  else
  self (I.wrap .i64 (I.add yS 1))
 else
  k yS
def fG(I:Pr)(M:Md)(n:Nat)(a0:aj)(k:Int→Option Int)(self:Int→Option Int)(z3:Int):Option Int:=
 (some (aw a0.ae)).bind fun n4=>
 bif (I.bf z3 n4)then
  (gI a0.ae z3).bind fun x5=>
  (some (aw x5.ops)).bind fun n6=>
  (fm I M n n6 1 60).bind fun y7=>
  bif y7 then
  some 2
  else
  self (I.wrap .i64 (I.add z3 1))
 else
  k z3
def kX(I:Pr)(M:Md)(n:Nat)(a0:aj):Option Int:=
 (some (aw a0.ae)).bind fun n1=>
 (fm I M n n1 1 6).bind fun y2=>
 bif y2 then
 some 2
 else
 iter (fG I M n a0 (fun z8=>
  (fm I M n a0.aI 0 4).bind fun y9=>
  bif y9 then
   some 3
  else
   iter (fF I M n a0 (fun eU=>
    (ni I M n a0.name).bind fun H8=>
    bif (I.not H8)then
    some 4
    else
    iter (fE I M n a0 (fun z21=>
     iter (fD I M n a0 (fun z25=>
      iter (eb I M n a0 (fun EF=>
       some 0)) n 0)) n 0)) n 0)) n 0)) n 0
def AU(I:Pr)(M:Md)(n:Nat)(a0:ai)(a1:ByteArray)(k:Int→Option Int)(self:Int→Option Int)(z1:Int):Option Int:=
 (some (aw a0.af)).bind fun n2=>
 bif (I.bf z1 n2)then
  (gI a0.af z1).bind fun x3=>
  bif (I.seq x3.name a1)then
  some z1
  else
  self (I.wrap .i64 (I.add z1 1))
 else
  k z1
def pv(I:Pr)(M:Md)(n:Nat)(a0:ai)(a1:ByteArray):Option Int:=
 iter (AU I M n a0 a1 (fun z4=>
  some (-1))) n 0
def kZ(I:Pr)(M:Md)(n:Nat)(a0:List aD)(l1:List Bool)(z2:Int)(k:Bool×Int→Option (List Bool))(self:Bool×Int→Option (List Bool))(st:Bool×Int):Option (List Bool):=
 match st with
 |(z5,z6)=>
 (gI a0 z2).bind fun x7=>
 (some (aw x7.args)).bind fun n8=>
 bif (I.bf z6 n8)then
  (dp z5 false (gI a0 z2) default).bind fun x9=>
  (dp z5 false (dp (I.aS x9.kind 3) true (gI a0 z2) default) default).bind fun vE=>
  (dp z5 false (dp (I.aS x9.kind 3) true (gI vE.args z6) default) default).bind fun Fg=>
  (dp z5 false (dp (I.aS x9.kind 3) true (gI l1 Fg) default) default).bind fun wO=>
  self ((I.pick z5 true (I.pick (I.aS x9.kind 3) wO false)),(I.wrap .i64 (I.add z6 1)))
 else
  k (z5,z6)
def nY(I:Pr)(M:Md)(n:Nat)(a0:List aD)(k:(List Bool)×Int→Option (List Bool))(self:(List Bool)×Int→Option (List Bool))(st:(List Bool)×Int):Option (List Bool):=
 match st with
 |(l1,z2)=>
 (some (aw a0)).bind fun n3=>
 bif (I.bf z2 n3)then
  (gI a0 z2).bind fun x4=>
  iter (kZ I M n a0 l1 z2 (fun(pa,eU)=>
   (aP 1 l1 pa).bind fun yX=>
   self (yX,(I.wrap .i64 (I.add z2 1))))) n ((I.aS x4.kind 5),0)
 else
  k (l1,z2)
def vP(I:Pr)(M:Md)(n:Nat)(a0:List aD):Option (List Bool):=
 iter (nY I M n a0 (fun(PQ,Ho)=>
  some PQ)) n ([],0)
def jv(I:Pr)(M:Md)(n:Nat)(x1:aD)(Ji:List Bool)(k:Int→Option Int)(self:Int→Option Int)(Ho:Int):Option Int:=
 (some (aw x1.args)).bind fun Uc=>
 bif (I.bf Ho Uc)then
  (gI x1.args Ho).bind fun LL=>
  (gI Ji LL).bind fun eT=>
  bif eT then
  some 7
  else
  self (I.wrap .i64 (I.add Ho 1))
 else
  k Ho
def jw(I:Pr)(M:Md)(n:Nat)(a3:Int)(x1:aD)(k:Int→Option Int)(self:Int→Option Int)(z7:Int):Option Int:=
 (some (aw x1.args)).bind fun n8=>
 bif (I.bf z7 n8)then
  (gI x1.args z7).bind fun x9=>
  (fm I M n x9 0 (I.wrap .i64 (I.sub a3 1))).bind fun wY=>
  bif wY then
  some 1
  else
  self (I.wrap .i64 (I.add z7 1))
 else
  k z7
def mb(I:Pr)(M:Md)(n:Nat)(a0:ai)(a1:aj)(a2:ag)(a3:Int):Option Int:=
 (gI a2.ops a3).bind fun x1=>
 (fm I M n x1.kind 1 5).bind fun y2=>
 bif y2 then
 some 3
 else
 (dp (I.pick (I.rL x1.kind 2) (I.not (I.seq x1.name (⟨#[]⟩:ByteArray))) false) false (dp (I.bf 2 x1.kind) true (ni I M n x1.name) default) default).bind fun y3=>
 bif (I.pick (I.pick (I.rL x1.kind 2) (I.not (I.seq x1.name (⟨#[]⟩:ByteArray))) false) true (I.pick (I.bf 2 x1.kind) (I.not y3) false))then
  some 4
 else
  (dp (I.aS x1.kind 1) true (fm I M n x1.num 0 (I.wrap .i64 (I.sub a1.aI 1))) default).bind fun y4=>
  (dp (I.pick (I.aS x1.kind 1) y4 false) false (dp (I.aS x1.kind 2) true (fm I M n x1.num 0 (I.wrap .i64 (I.sub a2.aM 1))) default) default).bind fun y5=>
  bif (I.pick (I.pick (I.pick (I.aS x1.kind 1) y4 false) true (I.pick (I.aS x1.kind 2) y5 false)) true (I.pick (I.bf 2 x1.kind) (I.not (I.aS x1.num 0)) false))then
  some 1
  else
  (some (aw x1.args)).bind fun n6=>
  bif (I.pick (I.pick (I.rL x1.kind 2) (I.bf 0 n6) false) true (I.pick (I.aS x1.kind 3) (I.bf 4 n6) false))then
   some 2
  else
   iter (jw I M n a3 x1 (fun H5=>
    bif (I.rL x1.kind 3)then
    some 0
    else
    (pv I M n a0 x1.name).bind fun EI=>
    bif (I.bf EI 0)then
     some 1
    else
     (some (aw x1.args)).bind fun n13=>
     (gI a0.af EI).bind fun wN=>
     bif (I.not (I.aS n13 wN.aI))then
     some 7
     else
     (GZ a2.ops 0 a3).bind fun yX=>
     (vP I M n yX).bind fun Ji=>
     iter (jv I M n x1 Ji (fun z21=>
      some 0)) n 0)) n 0
def mf(I:Pr)(M:Md)(n:Nat)(a0:ai)(yU:ag)(pa:Int)(k:Int→Option Int)(self:Int→Option Int)(fh:Int):Option Int:=
 (some (aw yU.ops)).bind fun n20=>
 bif (I.bf fh n20)then
  (gI a0.af pa).bind fun yt=>
  (mb I M n (⟨a0.af⟩:ai) yt yU fh).bind fun y22=>
  bif (I.not (I.aS y22 0))then
  some y22
  else
  self (I.wrap .i64 (I.add fh 1))
 else
  k fh
def mg(I:Pr)(M:Md)(n:Nat)(a0:ai)(pa:Int)(k:Int→Option Int)(self:Int→Option Int)(wX:Int):Option Int:=
 (gI a0.af pa).bind fun UB=>
 (some (aw UB.ae)).bind fun WY=>
 bif (I.bf wX WY)then
  (gI UB.ae wX).bind fun yU=>
  iter (mf I M n a0 yU pa (fun z23=>
   (some (aw yU.ops)).bind fun n24=>
   (fm I M n yU.result 0 (I.wrap .i64 (I.sub n24 1))).bind fun y25=>
   bif y25 then
   some 1
   else
   self (I.wrap .i64 (I.add wX 1)))) n 0
 else
  k wX
def mh(I:Pr)(M:Md)(n:Nat)(a0:ai)(k:Int→Option Int)(self:Int→Option Int)(pa:Int):Option Int:=
 (some (aw a0.af)).bind fun MP=>
 bif (I.bf pa MP)then
  iter (mg I M n a0 pa (fun EG=>
   self (I.wrap .i64 (I.add pa 1)))) n 0
 else
  k pa
def mi(I:Pr)(M:Md)(n:Nat)(a0:ai)(k:Int→Option Int)(self:Int→Option Int)(z8:Int):Option Int:=
 (some (aw a0.af)).bind fun n9=>
 bif (I.bf z8 n9)then
  (gI a0.af z8).bind fun vE=>
  (pv I M n a0 vE.name).bind fun wL=>
  bif (I.bf wL z8)then
  some 5
  else
  self (I.wrap .i64 (I.add z8 1))
 else
  k z8
def mj(I:Pr)(M:Md)(n:Nat)(a0:ai)(k:Int→Option Int)(self:Int→Option Int)(z3:Int):Option Int:=
 (some (aw a0.af)).bind fun n4=>
 bif (I.bf z3 n4)then
  (gI a0.af z3).bind fun x5=>
  (kX I M n x5).bind fun y6=>
  bif (I.not (I.aS y6 0))then
  some y6
  else
  self (I.wrap .i64 (I.add z3 1))
 else
  k z3
def nh(I:Pr)(M:Md)(n:Nat)(a0:ai):Option Int:=
 (some (aw a0.af)).bind fun n1=>
 (fm I M n n1 1 12).bind fun y2=>
 bif y2 then
 some 2
 else
 iter (mj I M n a0 (fun z7=>
  iter (mi I M n a0 (fun EH=>
   iter (mh I M n a0 (fun z27=>
    some 0)) n 0)) n 0)) n 0
def kY(I:Pr)(M:Md)(n:Nat)(a0:ag)(l2:List Bool)(z4:Int)(k:(List Bool)×Int→Option (List Bool))(self:(List Bool)×Int→Option (List Bool))(st:(List Bool)×Int):Option (List Bool):=
 match st with
 |(l9,yS)=>
 (gI a0.ops z4).bind fun Fg=>
 (some (aw Fg.args)).bind fun Y5=>
 bif (I.bf yS Y5)then
  (gI Fg.args yS).bind fun Dk=>
  (gN (M.ln l2) Dk).bind fun k14=>
  (gK l9 k14).bind fun AB=>
  (dp AB false (gN (M.ln l2) z4) default).bind fun k16=>
  (dp AB false (gK l9 k16) default).bind fun sQ=>
  (gD l9 k14 (I.pick AB true sQ)).bind fun rJ=>
  self (rJ,(I.wrap .i64 (I.add yS 1)))
 else
  k (l9,yS)
def nX(I:Pr)(M:Md)(n:Nat)(a0:ag)(l2:List Bool)(k:(List Bool)×Int→Option (List Bool))(self:(List Bool)×Int→Option (List Bool))(st:(List Bool)×Int):Option (List Bool):=
 match st with
 |(l3,z4)=>
 bif (I.rL 0 z4)then
  (gN (M.ln l2) z4).bind fun k5=>
  (gK l3 k5).bind fun x6=>
  (dp (I.pick x6 true (I.aS z4 a0.result)) false (gI a0.ops z4) default).bind fun x7=>
  (gD l3 k5 (I.pick (I.pick x6 true (I.aS z4 a0.result)) true (I.bf 3 x7.kind))).bind fun l8=>
  iter (kY I M n a0 l2 z4 (fun(KF,Di)=>
   self (KF,(I.wrap .i64 (I.sub z4 1))))) n (l8,0)
 else
  k (l3,z4)
def vO(I:Pr)(M:Md)(n:Nat)(a0:ag):Option (List Bool):=
 (some (aw a0.ops)).bind fun n1=>
 (vZ 1 n1 false).bind fun l2=>
 iter (nX I M n a0 l2 (fun(xP,D3)=>
  (ei (M.ln l2) xP).bind fun Sh=>
  some xP)) n (l2,(I.wrap .i64 (I.sub n1 1)))
def kq(I:Pr)(M:Md)(n:Nat)(a0:aD)(a1:List Int)(k:(List Int)×Int→Option aD)(self:(List Int)×Int→Option aD)(st:(List Int)×Int):Option aD:=
 match st with
 |(l1,z2)=>
 (some (aw a0.args)).bind fun n3=>
 bif (I.bf z2 n3)then
  (gI a0.args z2).bind fun x4=>
  (gI a1 x4).bind fun x5=>
  (aP 8 l1 x5).bind fun l6=>
  self (l6,(I.wrap .i64 (I.add z2 1)))
 else
  k (l1,z2)
def ep(I:Pr)(M:Md)(n:Nat)(a0:aD)(a1:List Int):Option aD:=
 iter (kq I M n a0 a1 (fun(l7,z8)=>
  some (⟨a0.kind,a0.name,a0.num,l7⟩:aD))) n ([],0)
def jt(I:Pr)(M:Md)(n:Nat)(a0:ag)(l3:List Int)(y1:List Bool)(k:(List Int)×(List aD)×Int→Option ag)(self:(List Int)×(List aD)×Int→Option ag)(st:(List Int)×(List aD)×Int):Option ag:=
 match st with
 |(l4,l5,z6)=>
 (some (aw a0.ops)).bind fun n7=>
 bif (I.bf z6 n7)then
  (gI y1 z6).bind fun x8=>
  bif x8 then
  (some (aw l5)).bind fun n9=>
  (gN (M.ln l3) z6).bind fun Xh=>
  (gK l4 Xh).bind fun Fg=>
  (gD l4 Xh n9).bind fun ia=>
  (gI a0.ops z6).bind fun Dk=>
  (ei (M.ln l3) ia).bind fun u14=>
  (ep I M n Dk ia).bind fun H8=>
  (aP 56 l5 H8).bind fun PQ=>
  self (ia,PQ,(I.wrap .i64 (I.add z6 1)))
  else
  self (l4,l5,(I.wrap .i64 (I.add z6 1)))
 else
  k (l4,l5,z6)
def pT(I:Pr)(M:Md)(n:Nat)(a0:ag):Option ag:=
 (vO I M n a0).bind fun y1=>
 (some (aw a0.ops)).bind fun n2=>
 (vZ 8 n2 0).bind fun l3=>
 iter (jt I M n a0 l3 y1 (fun(ua,rJ,fh)=>
  (gN (M.ln l3) a0.result).bind fun k20=>
  (gK ua k20).bind fun yt=>
  some (⟨a0.head,a0.aM,rJ,yt⟩:ag))) n (l3,[],0)
def ru(I:Pr)(M:Md)(n:Nat)(a0:aD)(a1:aD)(k:Int→Option Bool)(self:Int→Option Bool)(z3:Int):Option Bool:=
 (some (aw a0.args)).bind fun n4=>
 bif (I.bf z3 n4)then
  (gI a0.args z3).bind fun x5=>
  (gI a1.args z3).bind fun x6=>
  bif (I.not (I.aS x5 x6))then
  some false
  else
  self (I.wrap .i64 (I.add z3 1))
 else
  k z3
def vN(I:Pr)(M:Md)(n:Nat)(a0:aD)(a1:aD):Option Bool:=
 (some (aw a0.args)).bind fun n1=>
 (some (aw a1.args)).bind fun n2=>
 bif (I.pick (I.pick (I.pick (I.not (I.aS a0.kind a1.kind)) true (I.not (I.seq a0.name a1.name))) true (I.not (I.aS a0.num a1.num))) true (I.not (I.aS n1 n2)))then
 some false
 else
 iter (ru I M n a0 a1 (fun z7=>
  some true)) n 0
def ct(I:Pr)(M:Md)(n:Nat)(l4:List aD)(y9:aD)(k:Int×Int→Option ag)(self:Int×Int→Option ag)(st:Int×Int):Option ag:=
 match st with
 |(yS,H5)=>
 (some (aw l4)).bind fun Y5=>
 bif (I.pick (I.bf H5 Y5) (I.bf yS 0) false)then
  (gI l4 H5).bind fun Dk=>
  (vN I M n Dk y9).bind fun Lz=>
  bif Lz then
  self (H5,(I.wrap .i64 (I.add H5 1)))
  else
  self (yS,(I.wrap .i64 (I.add H5 1)))
 else
  k (yS,H5)
def ko(I:Pr)(M:Md)(n:Nat)(a0:ag)(l2:List Int)(k:(List Int)×(List aD)×Int→Option ag)(self:(List Int)×(List aD)×Int→Option ag)(st:(List Int)×(List aD)×Int):Option ag:=
 match st with
 |(l3,l4,z5)=>
 (some (aw a0.ops)).bind fun n6=>
 bif (I.bf z5 n6)then
  (gI a0.ops z5).bind fun x7=>
  (ei (M.ln l2) l3).bind fun u8=>
  (ep I M n x7 l3).bind fun y9=>
  iter (ct I M n l4 y9 (fun(wX,lD)=>
   bif (I.bf wX 0)then
   (some (aw l4)).bind fun WY=>
   (aP 56 l4 y9).bind fun rJ=>
   (gN (M.ln l2) z5).bind fun k19=>
   (gK l3 k19).bind fun eT=>
   (gD l3 k19 WY).bind fun xP=>
   self (xP,rJ,(I.wrap .i64 (I.add z5 1)))
   else
   (gN (M.ln l2) z5).bind fun k22=>
   (gK l3 k22).bind fun x23=>
   (gD l3 k22 wX).bind fun N2=>
   self (N2,l4,(I.wrap .i64 (I.add z5 1))))) n ((-1),0)
 else
  k (l3,l4,z5)
def rq(I:Pr)(M:Md)(n:Nat)(a0:ag):Option ag:=
 (some (aw a0.ops)).bind fun n1=>
 (vZ 8 n1 0).bind fun l2=>
 iter (ko I M n a0 l2 (fun(HI,KE,z27)=>
  (gN (M.ln l2) a0.result).bind fun k28=>
  (gK HI k28).bind fun rF=>
  some (⟨a0.head,a0.aM,KE,rF⟩:ag))) n (l2,[],0)
def kr(I:Pr)(M:Md)(n:Nat)(a0:aD):Option Bool:=
 some (I.pick (I.aS a0.kind 4) true (I.aS a0.kind 5))
def lZ(I:Pr)(M:Md)(n:Nat)(a0:ag)(k:Int→Option Bool)(self:Int→Option Bool)(z1:Int):Option Bool:=
 (some (aw a0.ops)).bind fun n2=>
 bif (I.bf z1 n2)then
  (gI a0.ops z1).bind fun x3=>
  (kr I M n x3).bind fun y4=>
  bif y4 then
  some false
  else
  self (I.wrap .i64 (I.add z1 1))
 else
  k z1
def nf(I:Pr)(M:Md)(n:Nat)(a0:ag):Option Bool:=
 iter (lZ I M n a0 (fun z5=>
  some true)) n 0
def tz(I:Pr)(M:Md)(n:Nat)(a0:aj):Option Bool:=
 (some (aw a0.ae)).bind fun n1=>
 (dp (I.aS n1 1) true (gI a0.ae 0) default).bind fun x2=>
 (dp (I.pick (I.aS n1 1) (I.seq x2.head (⟨#[]⟩:ByteArray)) false) true (gI a0.ae 0) default).bind fun x3=>
 (dp (I.pick (I.aS n1 1) (I.seq x2.head (⟨#[]⟩:ByteArray)) false) true (nf I M n (⟨x3.head,x3.aM,x3.ops,x3.result⟩:ag)) default).bind fun y4=>
 some (I.pick (I.pick (I.aS n1 1) (I.seq x2.head (⟨#[]⟩:ByteArray)) false) y4 false)
def rv(I:Pr)(M:Md)(n:Nat)(a0:aj)(x6:aD)(k:Int→Option Int)(self:Int→Option Int)(z7:Int):Option Int:=
 (some (aw a0.ae)).bind fun n8=>
 bif (I.bf z7 n8)then
  (gI a0.ae z7).bind fun x9=>
  (dp (I.seq x9.head x6.name) true (gI a0.ae z7) default).bind fun vE=>
  (some (aw x6.args)).bind fun xa=>
  (dp (I.pick (I.seq x9.head x6.name) (I.aS vE.aM xa) false) true (gI a0.ae z7) default).bind fun wO=>
  (dp (I.pick (I.seq x9.head x6.name) (I.aS vE.aM xa) false) true (nf I M n wO) default).bind fun sP=>
  bif (I.pick (I.pick (I.seq x9.head x6.name) (I.aS vE.aM xa) false) sP false)then
  some z7
  else
  self (I.wrap .i64 (I.add z7 1))
 else
  k z7
def r9(I:Pr)(M:Md)(n:Nat)(a0:aj)(a1:aD)(a2:List aD)(a3:Bool):Option Int:=
 bif (I.not a3)then
 (tz I M n (⟨a0.name,a0.aI,a0.ae⟩:aj)).bind fun y1=>
 bif y1 then
  some 0
 else
  some (-1)
 else
 (gI a0.ae 0).bind fun x2=>
 (dp (I.seq x2.head (⟨#[]⟩:ByteArray)) false (gI a1.args 0) default).bind fun x3=>
 (dp (I.seq x2.head (⟨#[]⟩:ByteArray)) false (gI a2 x3) default).bind fun x4=>
 bif (I.pick (I.seq x2.head (⟨#[]⟩:ByteArray)) true (I.not (I.aS x4.kind 3)))then
  some (-1)
 else
  (gI a1.args 0).bind fun x5=>
  (gI a2 x5).bind fun x6=>
  iter (rv I M n a0 x6 (fun eU=>
   some (-1))) n 0
def na(I:Pr)(M:Md)(n:Nat)(Te:List Int)(wN:ag)(y9:aD)(k:(List Int)×(List aD)×Int→Option ag)(self:(List Int)×(List aD)×Int→Option ag)(st:(List Int)×(List aD)×Int):Option ag:=
 match st with
 |(Hp,HH,E9)=>
 (some (aw wN.ops)).bind fun n33=>
 bif (I.bf E9 n33)then
  (gI wN.ops E9).bind fun x34=>
  bif (I.aS x34.kind 1)then
  (gI y9.args x34.num).bind fun rm=>
  (gN (M.ln Te) E9).bind fun k36=>
  (gK Hp k36).bind fun x37=>
  (gD Hp k36 rm).bind fun l38=>
  self (l38,HH,(I.wrap .i64 (I.add E9 1)))
  else
  bif (I.aS x34.kind 2)then
   (gI y9.args 0).bind fun x39=>
   (gI HH x39).bind fun x40=>
   (gI x40.args x34.num).bind fun Ol=>
   (gN (M.ln Te) E9).bind fun k42=>
   (gK Hp k42).bind fun x43=>
   (gD Hp k42 Ol).bind fun HG=>
   self (HG,HH,(I.wrap .i64 (I.add E9 1)))
  else
   (some (aw HH)).bind fun MO=>
   (gN (M.ln Te) E9).bind fun k46=>
   (gK Hp k46).bind fun Oj=>
   (gD Hp k46 MO).bind fun PM=>
   (ei (M.ln Te) PM).bind fun u49=>
   (ep I M n x34 PM).bind fun Zk=>
   (aP 56 HH Zk).bind fun Y6=>
   self (PM,Y6,(I.wrap .i64 (I.add E9 1)))
 else
  k (Hp,HH,E9)
def nc(I:Pr)(M:Md)(n:Nat)(wN:ag)(k:Int×Int→Option ag)(self:Int×Int→Option ag)(st:Int×Int):Option ag:=
 match st with
 |(wX,lD)=>
 (some (aw wN.ops)).bind fun WY=>
 bif (I.bf lD WY)then
  (gI wN.ops lD).bind fun yU=>
  (dp (I.not (I.aS yU.kind 1)) true (gI wN.ops lD) default).bind fun LL=>
  bif (I.pick (I.not (I.aS yU.kind 1)) (I.not (I.aS LL.kind 2)) false)then
  self ((I.wrap .i64 (I.add wX 1)),(I.wrap .i64 (I.add lD 1)))
  else
  self (wX,(I.wrap .i64 (I.add lD 1)))
 else
  k (wX,lD)
def DB(I:Pr)(M:Md)(n:Nat)(k:Unit→Option ag)(self:Unit→Option ag)(st:Unit):Option ag:=
 match st with
 |()=>
 k ()
def xy(I:Pr)(M:Md)(n:Nat)(k:Unit→Option ag)(self:Unit→Option ag)(st:Unit):Option ag:=
 match st with
 |()=>
 k ()
def DA(I:Pr)(M:Md)(n:Nat)(k:Unit→Option ag)(self:Unit→Option ag)(st:Unit):Option ag:=
 match st with
 |()=>
 k ()
def xx(I:Pr)(M:Md)(n:Nat)(k:Unit→Option ag)(self:Unit→Option ag)(st:Unit):Option ag:=
 match st with
 |()=>
 k ()
def p7(I:Pr)(M:Md)(n:Nat)(a0:ai)(a1:ag)(a2:Bool)(l2:List Int)(k:(List Int)×(List aD)×Int→Option ag)(self:(List Int)×(List aD)×Int→Option ag)(st:(List Int)×(List aD)×Int):Option ag:=
 match st with
 |(l3,l4,z5)=>
 (some (aw a1.ops)).bind fun n6=>
 bif (I.bf z5 n6)then
  (gI a1.ops z5).bind fun x7=>
  (ei (M.ln l2) l3).bind fun u8=>
  (ep I M n x7 l3).bind fun y9=>
  (kr I M n y9).bind fun wY=>
  bif wY then
  (pv I M n (⟨a0.af⟩:ai) y9.name).bind fun wL=>
  (gI a0.af wL).bind fun wO=>
  (r9 I M n wO y9 l4 a2).bind fun sP=>
  bif (I.rL 0 sP)then
   (gI wO.ae sP).bind fun wN=>
   iter (nc I M n wN (fun(Di,z21)=>
    (some (aw l4)).bind fun WX=>
    (some (aw a1.ops)).bind fun n23=>
    bif (I.pick (I.bf sP 0) true (I.bf 60 (I.wrap .i64 (I.sub (I.wrap .i64 (I.sub (I.wrap .i64 (I.add (I.wrap .i64 (I.add WX Di)) n23)) 1)) z5))))then
    (gN (M.ln l2) z5).bind fun k24=>
    (gK l3 k24).bind fun BY=>
    (gD l3 k24 WX).bind fun KE=>
    (aP 56 l4 y9).bind fun re=>
    self (KE,re,(I.wrap .i64 (I.add z5 1)))
    else
    (some (aw wN.ops)).bind fun n28=>
    (vZ 8 n28 0).bind fun Te=>
    iter (na I M n Te wN y9 (fun(l52,l53,z54)=>
     (gN (M.ln Te) wN.result).bind fun k55=>
     (gK l52 k55).bind fun x56=>
     (gN (M.ln l2) z5).bind fun Xf=>
     (gK l3 Xf).bind fun YW=>
     (gD l3 Xf x56).bind fun MZ=>
     self (MZ,l53,(I.wrap .i64 (I.add z5 1))))) n (Te,l4,0))) n (0,0)
  else
   iter (xy I M n (fun _=>
    (some (aw l4)).bind fun n60=>
    (some (aw a1.ops)).bind fun n61=>
    bif (I.pick (I.bf sP 0) true (I.bf 60 (I.wrap .i64 (I.sub (I.wrap .i64 (I.sub (I.wrap .i64 (I.add (I.wrap .i64 (I.add n60 0)) n61)) 1)) z5))))then
    (gN (M.ln l2) z5).bind fun k62=>
    (gK l3 k62).bind fun x63=>
    (gD l3 k62 n60).bind fun Tc=>
    (aP 56 l4 y9).bind fun Tb=>
    self (Tc,Tb,(I.wrap .i64 (I.add z5 1)))
    else
    (vZ 8 0 0).bind fun N1=>
    iter (DB I M n (fun _=>
     (gN (M.ln N1) 0).bind fun k67=>
     (gK N1 k67).bind fun Zn=>
     (gN (M.ln l2) z5).bind fun Y7=>
     (gK l3 Y7).bind fun Zm=>
     (gD l3 Y7 Zn).bind fun KB=>
     self (KB,l4,(I.wrap .i64 (I.add z5 1))))) n ())) n ()
  else
  iter (xx I M n (fun _=>
   (some (aw l4)).bind fun n72=>
   (some (aw a1.ops)).bind fun n73=>
   bif (I.pick (I.bf (-1) 0) true (I.bf 60 (I.wrap .i64 (I.sub (I.wrap .i64 (I.sub (I.wrap .i64 (I.add (I.wrap .i64 (I.add n72 0)) n73)) 1)) z5))))then
    (gN (M.ln l2) z5).bind fun k74=>
    (gK l3 k74).bind fun x75=>
    (gD l3 k74 n72).bind fun l76=>
    (aP 56 l4 y9).bind fun l77=>
    self (l76,l77,(I.wrap .i64 (I.add z5 1)))
   else
    (vZ 8 0 0).bind fun KA=>
    iter (DA I M n (fun _=>
     (gN (M.ln KA) 0).bind fun k79=>
     (gK KA k79).bind fun x80=>
     (gN (M.ln l2) z5).bind fun k81=>
     (gK l3 k81).bind fun x82=>
     (gD l3 k81 x80).bind fun l83=>
     self (l83,l4,(I.wrap .i64 (I.add z5 1))))) n ())) n ()
 else
  k (l3,l4,z5)
def uG(I:Pr)(M:Md)(n:Nat)(a0:ai)(a1:ag)(a2:Bool):Option ag:=
 (some (aw a1.ops)).bind fun n1=>
 (vZ 8 n1 0).bind fun l2=>
 iter (p7 I M n a0 a1 a2 l2 (fun(BZ,DL,Lx)=>
  (gN (M.ln l2) a1.result).bind fun k87=>
  (gK BZ k87).bind fun YV=>
  some (⟨a1.head,a1.aM,DL,YV⟩:ag))) n (l2,[],0)
def fk(I:Pr)(M:Md)(n:Nat)(a0:ag)(l2:List Bool)(z4:Int)(k:(List Bool)×Int→Option ag)(self:(List Bool)×Int→Option ag)(st:(List Bool)×Int):Option ag:=
 match st with
 |(l5,z6)=>
 (gI a0.ops z4).bind fun x7=>
 (some (aw x7.args)).bind fun n8=>
 bif (I.bf z6 n8)then
  (kr I M n x7).bind fun y9=>
  (dp y9 false (gI a0.ops z4) default).bind fun vE=>
  (dp y9 false (dp (I.aS vE.kind 3) true (gN (M.ln l2) z4) default) default).bind fun k11=>
  (dp y9 false (dp (I.aS vE.kind 3) true (gK l5 k11) default) default).bind fun wO=>
  bif (I.pick y9 true (I.pick (I.aS vE.kind 3) wO false))then
  (gI x7.args z6).bind fun Dk=>
  (gN (M.ln l2) Dk).bind fun k14=>
  (gK l5 k14).bind fun AB=>
  (gD l5 k14 true).bind fun PQ=>
  self (PQ,(I.wrap .i64 (I.add z6 1)))
  else
  self (l5,(I.wrap .i64 (I.add z6 1)))
 else
  k (l5,z6)
def iy(I:Pr)(M:Md)(n:Nat)(a0:ag)(KF:List Bool)(l2:List Bool)(k:(List aD)×Int→Option ag)(self:(List aD)×Int→Option ag)(st:(List aD)×Int):Option ag:=
 match st with
 |(xP,D3)=>
 (some (aw a0.ops)).bind fun n23=>
 bif (I.bf D3 n23)then
  (gI a0.ops D3).bind fun LK=>
  (dp (I.aS LK.kind 4) true (gN (M.ln l2) D3) default).bind fun k25=>
  (dp (I.aS LK.kind 4) true (gK KF k25) default).bind fun x26=>
  bif (I.pick (I.aS LK.kind 4) (I.not x26) false)then
  (aP 56 xP (⟨5,LK.name,LK.num,LK.args⟩:aD)).bind fun re=>
  self (re,(I.wrap .i64 (I.add D3 1)))
  else
  (aP 56 xP LK).bind fun v9=>
  self (v9,(I.wrap .i64 (I.add D3 1)))
 else
  k (xP,D3)
def iz(I:Pr)(M:Md)(n:Nat)(a0:ag)(l2:List Bool)(k:(List Bool)×Int→Option ag)(self:(List Bool)×Int→Option ag)(st:(List Bool)×Int):Option ag:=
 match st with
 |(l3,z4)=>
 bif (I.rL 0 z4)then
  iter (fk I M n a0 l2 z4 (fun(ua,z18)=>
   self (ua,(I.wrap .i64 (I.sub z4 1))))) n (l3,0)
 else
  k (l3,z4)
def nV(I:Pr)(M:Md)(n:Nat)(a0:ag):Option ag:=
 (some (aw a0.ops)).bind fun n1=>
 (vZ 1 n1 false).bind fun l2=>
 iter (iz I M n a0 l2 (fun(KF,Di)=>
  iter (iy I M n a0 KF l2 (fun(Te,z30)=>
   some (⟨a0.head,a0.aM,Te,a0.result⟩:ag))) n ([],0))) n (l2,(I.wrap .i64 (I.sub n1 1)))
def dh(I:Pr)(M:Md)(n:Nat)(a0:ai)(a1:Int)(z2:Int)(k:(List ag)×Int→Option ai)(self:(List ag)×Int→Option ai)(st:(List ag)×Int):Option ai:=
 match st with
 |(l5,z6)=>
 (gI a0.af z2).bind fun x7=>
 (some (aw x7.ae)).bind fun n8=>
 bif (I.bf z6 n8)then
  (gI x7.ae z6).bind fun x9=>
  bif (I.aS a1 1)then
  (pT I M n x9).bind fun wY=>
  (aP 56 l5 wY).bind fun AD=>
  self (AD,(I.wrap .i64 (I.add z6 1)))
  else
  bif (I.aS a1 2)then
   (rq I M n x9).bind fun EI=>
   (aP 56 l5 EI).bind fun yY=>
   self (yY,(I.wrap .i64 (I.add z6 1)))
  else
   bif (I.aS a1 3)then
   (uG I M n (⟨a0.af⟩:ai) x9 false).bind fun Lz=>
   (aP 56 l5 Lz).bind fun yX=>
   self (yX,(I.wrap .i64 (I.add z6 1)))
   else
   bif (I.aS a1 4)then
    (uG I M n (⟨a0.af⟩:ai) x9 true).bind fun Ji=>
    (aP 56 l5 Ji).bind fun ua=>
    self (ua,(I.wrap .i64 (I.add z6 1)))
   else
    bif (I.aS a1 5)then
    (nV I M n x9).bind fun Uw=>
    (aP 56 l5 Uw).bind fun KF=>
    self (KF,(I.wrap .i64 (I.add z6 1)))
    else
    (aP 56 l5 x9).bind fun PO=>
    self (PO,(I.wrap .i64 (I.add z6 1)))
 else
  k (l5,z6)
def nW(I:Pr)(M:Md)(n:Nat)(a0:ai)(a1:Int)(k:(List aj)×Int→Option ai)(self:(List aj)×Int→Option ai)(st:(List aj)×Int):Option ai:=
 match st with
 |(l1,z2)=>
 (some (aw a0.af)).bind fun n3=>
 bif (I.bf z2 n3)then
  (gI a0.af z2).bind fun x4=>
  iter (dh I M n a0 a1 z2 (fun(xP,D3)=>
   (aP 48 l1 (⟨x4.name,x4.aI,xP⟩:aj)).bind fun yI=>
   self (yI,(I.wrap .i64 (I.add z2 1))))) n ([],0)
 else
  k (l1,z2)
def ea(I:Pr)(M:Md)(n:Nat)(a0:ai)(a1:Int):Option ai:=
 iter (nW I M n a0 a1 (fun(N2,z25)=>
  some (⟨N2⟩:ai))) n ([],0)
def iU(I:Pr)(M:Md)(n:Nat)(x5:aD)(x6:aD)(k:Int→Option Bool)(self:Int→Option Bool)(z9:Int):Option Bool:=
 (some (aw x5.args)).bind fun Ky=>
 bif (I.bf z9 Ky)then
  (gI x5.args z9).bind fun Fg=>
  (gI x6.args z9).bind fun wO=>
  bif (I.not (I.aS Fg wO))then
  some false
  else
  self (I.wrap .i64 (I.add z9 1))
 else
  k z9
def iV(I:Pr)(M:Md)(n:Nat)(a0:ag)(a1:ag)(k:Int→Option Bool)(self:Int→Option Bool)(z3:Int):Option Bool:=
 (some (aw a0.ops)).bind fun n4=>
 bif (I.bf z3 n4)then
  (gI a0.ops z3).bind fun x5=>
  (gI a1.ops z3).bind fun x6=>
  (some (aw x5.args)).bind fun n7=>
  (some (aw x6.args)).bind fun n8=>
  bif (I.pick (I.pick (I.pick (I.not (I.aS x5.kind x6.kind)) true (I.not (I.seq x5.name x6.name))) true (I.not (I.aS x5.num x6.num))) true (I.not (I.aS n7 n8)))then
  some false
  else
  iter (iU I M n x5 x6 (fun pa=>
   self (I.wrap .i64 (I.add z3 1)))) n 0
 else
  k z3
def kW(I:Pr)(M:Md)(n:Nat)(a0:ag)(a1:ag):Option Bool:=
 (some (aw a0.ops)).bind fun n1=>
 (some (aw a1.ops)).bind fun n2=>
 bif (I.pick (I.pick (I.pick (I.not (I.seq a0.head a1.head)) true (I.not (I.aS a0.aM a1.aM))) true (I.not (I.aS a0.result a1.result))) true (I.not (I.aS n1 n2)))then
 some false
 else
 iter (iV I M n a0 a1 (fun eU=>
  some true)) n 0
def rz(I:Pr)(M:Md)(n:Nat)(x5:aj)(x6:aj)(k:Int→Option Bool)(self:Int→Option Bool)(z9:Int):Option Bool:=
 (some (aw x5.ae)).bind fun Ky=>
 bif (I.bf z9 Ky)then
  (gI x5.ae z9).bind fun Fg=>
  (gI x6.ae z9).bind fun wO=>
  (kW I M n Fg wO).bind fun sP=>
  bif (I.not sP)then
  some false
  else
  self (I.wrap .i64 (I.add z9 1))
 else
  k z9
def rA(I:Pr)(M:Md)(n:Nat)(a0:ai)(a1:ai)(k:Int→Option Bool)(self:Int→Option Bool)(z3:Int):Option Bool:=
 (some (aw a0.af)).bind fun n4=>
 bif (I.bf z3 n4)then
  (gI a0.af z3).bind fun x5=>
  (gI a1.af z3).bind fun x6=>
  (some (aw x5.ae)).bind fun n7=>
  (some (aw x6.ae)).bind fun n8=>
  bif (I.pick (I.pick (I.not (I.seq x5.name x6.name)) true (I.not (I.aS x5.aI x6.aI))) true (I.not (I.aS n7 n8)))then
  some false
  else
  iter (rz I M n x5 x6 (fun eU=>
   self (I.wrap .i64 (I.add z3 1)))) n 0
 else
  k z3
def dE(I:Pr)(M:Md)(n:Nat)(a0:ai)(a1:ai):Option Bool:=
 (some (aw a0.af)).bind fun n1=>
 (some (aw a1.af)).bind fun n2=>
 bif (I.not (I.aS n1 n2))then
 some false
 else
 iter (rA I M n a0 a1 (fun wX=>
  some true)) n 0
def p8(I:Pr)(M:Md)(n:Nat)(k:(List aj)×Int→Option (ai×Int))(self:(List aj)×Int→Option (ai×Int))(st:(List aj)×Int):Option (ai×Int):=
 match st with
 |(l1,z2)=>
 bif (I.bf z2 20)then
  (ea I M n (⟨l1⟩:ai) 5).bind fun y3=>
  (ea I M n y3 3).bind fun y4=>
  (ea I M n y4 4).bind fun y5=>
  (ea I M n y5 2).bind fun y6=>
  (ea I M n y6 1).bind fun y7=>
  (dE I M n (⟨l1⟩:ai) y7).bind fun y8=>
  bif y8 then
  some ((⟨l1⟩:ai),z2)
  else
  self (y7.af,(I.wrap .i64 (I.add z2 1)))
 else
  k (l1,z2)
def Cl(I:Pr)(M:Md)(n:Nat)(a0:ai):Option (ai×Int):=
 iter (p8 I M n (fun(l9,yS)=>
  some ((⟨l9⟩:ai),20))) n (a0.af,0)
def zP(I:Pr)(M:Md)(n:Nat)(a0:ai)(a1:ai):Option Int:=
 (nh I M n a0).bind fun y1=>
 bif (I.not (I.aS y1 0))then
 some y1
 else
 (nh I M n a1).bind fun y2=>
 some y2
def jD(I:Pr)(M:Md)(n:Nat)(vE:ag)(k:(List Int)×Int→Option (List Int))(self:(List Int)×Int→Option (List Int))(st:(List Int)×Int):Option (List Int):=
 match st with
 |(AD,EH)=>
 (some (aw vE.ops)).bind fun n13=>
 bif (I.bf EH n13)then
  (gI vE.ops EH).bind fun wN=>
  (gN 5 (I.wrap .i64 (I.sub wN.kind 1))).bind fun Y8=>
  (gK AD Y8).bind fun UB=>
  (gD AD Y8 (I.wrap .i64 (I.add UB 1))).bind fun ua=>
  self (ua,(I.wrap .i64 (I.add EH 1)))
 else
  k (AD,EH)
def mc(I:Pr)(M:Md)(n:Nat)(a0:ai)(z4:Int)(k:(List Int)×Int→Option (List Int))(self:(List Int)×Int→Option (List Int))(st:(List Int)×Int):Option (List Int):=
 match st with
 |(l6,z7)=>
 (gI a0.af z4).bind fun x8=>
 (some (aw x8.ae)).bind fun n9=>
 bif (I.bf z7 n9)then
  (gI x8.ae z7).bind fun vE=>
  iter (jD I M n vE (fun(rJ,fh)=>
   self (rJ,(I.wrap .i64 (I.add z7 1))))) n (l6,0)
 else
  k (l6,z7)
def me(I:Pr)(M:Md)(n:Nat)(a0:ai)(k:(List Int)×Int→Option (List Int))(self:(List Int)×Int→Option (List Int))(st:(List Int)×Int):Option (List Int):=
 match st with
 |(l3,z4)=>
 (some (aw a0.af)).bind fun n5=>
 bif (I.bf z4 n5)then
  iter (mc I M n a0 z4 (fun(PO,z21)=>
   self (PO,(I.wrap .i64 (I.add z4 1))))) n (l3,0)
 else
  k (l3,z4)
def tA(I:Pr)(M:Md)(n:Nat)(a0:ai):Option (List Int):=
 (some (List.replicate 5 (0:Int))).bind fun l1=>
 (some (List.replicate 5 (0:Int))).bind fun l2=>
 iter (me I M n a0 (fun(IL,z23)=>
  (fe 5 IL).bind fun YY=>
  (fe 5 l1).bind fun UO=>
  (fe 5 IL).bind fun u26=>
  some IL)) n (l2,0)
def mQ(I:Pr)(M:Md)(n:Nat)(a0:ai):Option Int:=
 (tA I M n a0).bind fun y1=>
 (some (List.replicate 5 (0:Int))).bind fun l2=>
 (fe 5 l2).bind fun u3=>
 (gN 5 0).bind fun k4=>
 (gK y1 k4).bind fun x5=>
 (gN 5 1).bind fun k6=>
 (gK y1 k6).bind fun x7=>
 (gN 5 2).bind fun k8=>
 (gK y1 k8).bind fun x9=>
 (gN 5 3).bind fun Xh=>
 (gK y1 Xh).bind fun Fg=>
 (gN 5 4).bind fun k12=>
 (gK y1 k12).bind fun Dk=>
 some (I.wrap .i64 (I.add (I.wrap .i64 (I.add (I.wrap .i64 (I.add (I.wrap .i64 (I.add x5 x7)) x9)) Fg)) Dk))
def ju(I:Pr)(M:Md)(n:Nat)(a0:ai)(a1:ai)(k:Int→Option (Bool×Int))(self:Int→Option (Bool×Int))(z4:Int):Option (Bool×Int):=
 (some (aw a0.af)).bind fun n5=>
 bif (I.bf z4 n5)then
  (gI a0.af z4).bind fun x6=>
  (gI a1.af z4).bind fun x7=>
  (dp (I.not (I.seq x6.name x7.name)) false (gI a0.af z4) default).bind fun x8=>
  (dp (I.not (I.seq x6.name x7.name)) false (gI a1.af z4) default).bind fun x9=>
  bif (I.pick (I.not (I.seq x6.name x7.name)) true (I.not (I.aS x8.aI x9.aI)))then
  some (false,0)
  else
  self (I.wrap .i64 (I.add z4 1))
 else
  k z4
def ma(I:Pr)(M:Md)(n:Nat)(a0:ai)(a1:ai):Option (Bool×Int):=
 (zP I M n a0 a1).bind fun y1=>
 bif (I.not (I.aS y1 0))then
 some (false,y1)
 else
 (some (aw a0.af)).bind fun n2=>
 (some (aw a1.af)).bind fun n3=>
 bif (I.not (I.aS n2 n3))then
  some (false,0)
 else
  iter (ju I M n a0 a1 (fun yS=>
   (mQ I M n a1).bind fun wL=>
   (mQ I M n a0).bind fun EI=>
   some ((I.rL wL EI),0))) n 0
def wG(I:Pr)(M:Md)(n:Nat)(a0:ai):Option ((List Int)×Int):=
 (some (List.replicate 5 (0:Int))).bind fun l1=>
 (some (List.replicate 5 (0:Int))).bind fun l2=>
 (dL I M n a0).bind fun y3=>
 bif (I.not (I.aS y3 0))then
 (fe 5 l2).bind fun u4=>
 (fe 5 l1).bind fun u5=>
 (fe 5 l2).bind fun u6=>
 some (l2,y3)
 else
 (nA I M n a0).bind fun y7=>
 (some (List.replicate 6 (0:Int))).bind fun l8=>
 (fe 6 l8).bind fun u9=>
 (ado 5 5 l2).bind fun j10=>
 (akN 6 1 6 y7).bind fun AD=>
 (some (kO j10 AD l2)).bind fun ia=>
 (some (oY j10 AD)).bind fun n13=>
 (fe 5 ia).bind fun u14=>
 (fe 5 l1).bind fun u15=>
 (fe 5 ia).bind fun u16=>
 some (ia,0)
def nC(I:Pr)(M:Md)(n:Nat)(y1:(List Int)×Int)(k:Int×Int→Option (Int×Int))(self:Int×Int→Option (Int×Int))(st:Int×Int):Option (Int×Int):=
 match st with
 |(z5,z6)=>
 bif (I.bf z5 5)then
  (gI y1.1 z5).bind fun x7=>
  self ((I.wrap .i64 (I.add z5 1)),(I.wrap .i64 (I.add z6 x7)))
 else
  k (z5,z6)
def vz(I:Pr)(M:Md)(n:Nat)(a0:ai):Option (Int×Int):=
 (wG I M n a0).bind fun y1=>
 (some (List.replicate 5 (0:Int))).bind fun l2=>
 (fe 5 l2).bind fun u3=>
 (fe 5 y1.1).bind fun u4=>
 iter (nC I M n y1 (fun(z8,z9)=>
  some (z9,y1.2))) n (0,0)
def py(I:Pr)(M:Md)(n:Nat)(a0:aj)(a1:aj):Option Bool:=
 some (I.pick (I.seq a0.name a1.name) (I.aS a0.aI a1.aI) false)
def du(I:Pr)(M:Md)(n:Nat)(a0:List aj)(a1:List aj)(n1:Int)(k:Int→Option Bool)(self:Int→Option Bool)(z3:Int):Option Bool:=
 bif (I.bf z3 n1)then
  (gI a0 z3).bind fun x4=>
  (gI a1 z3).bind fun x5=>
  (py I M n x4 x5).bind fun y6=>
  bif (I.not y6)then
  some false
  else
  self (I.wrap .i64 (I.add z3 1))
 else
  k z3
def dX(I:Pr)(M:Md)(n:Nat)(a0:List aj)(a1:List aj):Option Bool:=
 (some (aw a0)).bind fun n1=>
 (some (aw a1)).bind fun n2=>
 bif (I.not (I.aS n1 n2))then
 some false
 else
 iter (du I M n a0 a1 n1 (fun z7=>
  some true)) n 0
def kD(I:Pr)(M:Md)(n:Nat)(a0:ai)(a1:ai):Option (Bool×Int):=
 (vz I M n a0).bind fun y1=>
 bif (I.not (I.aS y1.2 0))then
 some (false,y1.2)
 else
 (vz I M n a1).bind fun y2=>
 bif (I.not (I.aS y2.2 0))then
  some (false,y2.2)
 else
  (dp (I.rL y2.1 y1.1) true (dX I M n a0.af a1.af) default).bind fun y3=>
  some ((I.pick (I.rL y2.1 y1.1) y3 false),0)
def mH(I:Pr)(M:Md)(n:Nat)(a0:ai)(a1:ai):Option Bool:=
 (uS I M n a0).bind fun y1=>
 (dp y1 false (uS I M n a1) default).bind fun y2=>
 bif (I.pick y1 true y2)then
 (qf I M n).bind fun y3=>
 some y3
 else
 (rI I M n a0).bind fun y4=>
 (rI I M n a1).bind fun y5=>
 (nh I M n a0).bind fun y6=>
 bif (I.aS y6 0)then
  (Cl I M n a0).bind fun y7=>
  (ma I M n a0 a1).bind fun y8=>
  (pz I M n y4).bind fun y9=>
  (kD I M n y4 (⟨y5.af⟩:ai)).bind fun wY=>
  (dp (I.pick (I.pick (I.pick (I.not (I.aS y9.2.2 y6)) true (I.not (I.aS wY.2 y8.2))) true (I.not (I.aS y9.2.1 y7.2))) true (I.not (I.beq wY.1 y8.1))) false (dE I M n y9.1 y7.1) default).bind fun wL=>
  bif (I.pick (I.pick (I.pick (I.pick (I.not (I.aS y9.2.2 y6)) true (I.not (I.aS wY.2 y8.2))) true (I.not (I.aS y9.2.1 y7.2))) true (I.not (I.beq wY.1 y8.1))) true (I.not wL))then
  some false
  else
  (dE I M n y4 (⟨a0.af⟩:ai)).bind fun EI=>
  (dp EI true (dE I M n (⟨y5.af⟩:ai) (⟨a1.af⟩:ai)) default).bind fun sP=>
  (dp (I.pick EI sP false) true (qf I M n) default).bind fun Lz=>
  some (I.pick (I.pick EI sP false) Lz false)
 else
  (ma I M n (⟨a0.af⟩:ai) (⟨a1.af⟩:ai)).bind fun H8=>
  (pz I M n y4).bind fun Ji=>
  (kD I M n y4 (⟨y5.af⟩:ai)).bind fun y17=>
  (dp (I.pick (I.pick (I.pick (I.not (I.aS Ji.2.2 y6)) true (I.not (I.aS y17.2 H8.2))) true (I.not (I.aS Ji.2.1 0))) true (I.not (I.beq y17.1 H8.1))) false (dE I M n Ji.1 (⟨[]⟩:ai)) default).bind fun Uw=>
  bif (I.pick (I.pick (I.pick (I.pick (I.not (I.aS Ji.2.2 y6)) true (I.not (I.aS y17.2 H8.2))) true (I.not (I.aS Ji.2.1 0))) true (I.not (I.beq y17.1 H8.1))) true (I.not Uw))then
  some false
  else
  (dE I M n y4 (⟨a0.af⟩:ai)).bind fun y19=>
  (dp y19 true (dE I M n (⟨y5.af⟩:ai) (⟨a1.af⟩:ai)) default).bind fun R7=>
  (dp (I.pick y19 R7 false) true (qf I M n) default).bind fun y21=>
  some (I.pick (I.pick y19 R7 false) y21 false)
end Ab
namespace Ab
theorem alY{α:Type}{enc:α→List AV}{M:Md}{r k:Nat}{l w:List α}(hM:M= .ak)(q:some (l.take k)=some w){X:List (List AV)}(hX:X=List.take k (M.map enc l):=by first|rfl|rw[List.take.eq_def]):AV.sl r X=AV.sl r (M.map enc w):=by
 cases q;rw[hX];exact UZ hM l k
end Ab
namespace Ab
open Go
def KW{α:Type}:List Bool→(List Bool→α)→α
 |[],k=>k []
 |true::r,k=>KW r fun q=>k (true::q)
 |false::r,k=>KW r fun q=>k (false::q)
theorem CR{α:Type}: ∀(l:List Bool) (k:List Bool→α),KW l k=k l
 |[],_=>rfl
 |true::r,k=>CR r fun q=>k (true::q)
 |false::r,k=>CR r fun q=>k (false::q)
def CT{α:Type}(l:Array Bool)(k:Array Bool→α):α:=KW l.toList fun r=>k ⟨r⟩
theorem CS{α:Type}(l:Array Bool)(k:Array Bool→α):CT l k=k l:=by
 unfold CT;rw[CR]
def Ey(cl:Nat→Bool)(ops:Array Oper):Tree→Nat→Array Bool→Option (List Nat)→Bool
 | .done,_,l,none=>(Region.ready .any ops l).isEmpty
 | .one i t,f+1,l,none=>JL cl ops l i&&CT (l.setIfInBounds i true) fun q=>Ey cl ops t f q none
 | .al i t u,f+1,l,none=>match Region.ready .any ops l with
  |r::rs=>dy r i&&(CT (l.setIfInBounds i true) fun q=>Ey cl ops t f q none)&&Ey cl ops u (f+1) l (some rs)
  |[]=>false
 | .al i t u,f+1,l,some (r::rs)=>dy r i&&(CT (l.setIfInBounds i true) fun q=>Ey cl ops t f q none)&&Ey cl ops u (f+1) l (some rs)
 | .nil,_+1,_,some []=>true
 |_,_,_,_=>false
theorem ade(cl:Nat→Bool)(ops:Array Oper): ∀(t:Tree) (f:Nat) (l:Array Bool) (o:Option (List Nat)),Ey cl ops t f l o=C5 cl ops t f l o:=by
 intro t
 induction t with
 |done=>intro f l o;cases o<;>simp only[Ey,C5]
 |nil=>intro f l o;cases f<;>rcases o with _|_|_<;>simp only[Ey,C5]
 |one i t ih=>intro f l o;cases f<;>cases o<;>simp only[Ey,C5,CS,ih]
 |al i t u ih1 ih2=>
  intro f l o;cases f with
  |zero=>cases o<;>simp only[Ey,C5]
  |succ f=>rcases o with _|_|_<;>simp only[Ey,C5,CS,ih1,ih2]<;>rfl
def Up:Code→List (Nat×Array Oper)
 | .region id ops true=>[(id,ops)]
 | .seq a b=>Up a++Up b
 | .cond _ a b=>Up a++Up b
 | .block _ a=>Up a
 | .loop a=>Up a
 | .scope a=>Up a
 | .rangeFunc _ _ a b=>Up a++Up b
 |_=>[]
def ajt(cl:Nat→Bool)(T:Nat→Tree)(p:Nat×Array Oper):Bool:=Region.noSelect p.2&&CT (Array.replicate p.2.size false) fun l=>Ey cl p.2 (T p.1) p.2.size l none
def TO(cl:Nat→Bool)(T:Nat→Tree)(c:Code)(k:Nat):Bool:=match(Up c)[k]? with
 |some p=>ajt cl T p
 |none=>true
def tC:Code→Bool
 | .seq a b=>tC a&&tC b
 | .cond _ a b=>tC a&&tC b
 | .block _ a=>tC a
 | .loop a=>tC a
 | .scope a=>tC a
 | .rangeFunc _ _ a b=>(wZ a&&wZ b)&&(tC a&&tC b)
 |_=>true
theorem jL(cl:Nat→Bool)(T:Nat→Tree): ∀c:Code,tC c=true→(∀p∈Up c,ajt cl T p=true)→cD cl T c=true
 | .region id ops true,_,h=>by
  have:=h _ (List.mem_singleton.2 rfl)
  unfold ajt at this;rw[CS,ade]at this;exact this
 | .region _ _ false,_,_=>rfl
 | .seq a b,n,h=>by
  simp only[tC,Bool.and_eq_true]at n;simp only[cD,Bool.and_eq_true];exact⟨jL cl T a n.1 fun p hp=>h p (List.mem_append.2 (.inl hp)),jL cl T b n.2 fun p hp=>h p (List.mem_append.2 (.inr hp))⟩
 | .cond _ a b,n,h=>by
  simp only[tC,Bool.and_eq_true]at n;simp only[cD,Bool.and_eq_true];exact⟨jL cl T a n.1 fun p hp=>h p (List.mem_append.2 (.inl hp)),jL cl T b n.2 fun p hp=>h p (List.mem_append.2 (.inr hp))⟩
 | .block _ a,n,h=>jL cl T a n h
 | .loop a,n,h=>jL cl T a n h
 | .scope a,n,h=>jL cl T a n h
 | .rangeFunc _ _ a b,n,h=>by
  simp only[tC,Bool.and_eq_true]at n;simp only[cD,Bool.and_eq_true];exact⟨n.1,jL cl T a n.2.1 fun p hp=>h p (List.mem_append.2 (.inl hp)),jL cl T b n.2.2 fun p hp=>h p (List.mem_append.2 (.inr hp))⟩
 | .skip,_,_| .exit _,_,_| .label _,_,_| .goto _,_,_| .ret,_,_| .refuse _,_,_=>rfl
theorem Yd{cl:Nat→Bool}{T:Nat→Tree}{c:Code}(n:Nat)(hn:tC c=true:=by kernel_rfl)(hl:(Up c).length=n:=by kernel_rfl)(h: ∀k,k<n→TO cl T c k=true):cD cl T c=true:=by
 refine jL cl T c hn fun p hp=>?_;obtain⟨k,hk,e⟩:=List.getElem_of_mem hp;have:=h k (hl▸hk)
 unfold TO at this;rw[eH hk]at this;rw[e]at this;exact this
end Ab
namespace Ab
open Go
variable{P:Program}{E:Env}{w w':World}{a:Act}
theorem count_set{l:List Bool}{i:Nat}(h:l[i]? =some false):(l.set i true).count false+1=l.count false:=by
 obtain⟨h1,h2⟩:=bq.1 h;have h3:0<l.count false:=List.count_pos_iff.2 (by rw[←h2];exact List.getElem_mem h1)
 rw[List.count_set h1,h2];simp;omega
theorem RY{cl:Nat→Bool}{ops:Array Oper}{Q:Exit→Act→World→Prop}(Inv:Array Bool→Act→World→Prop)(Nn: ∀l a w,Inv l a w→Region.ready .any ops l=[]→Q .normal a w)
  (aek: ∀l a w i,Inv l a w→i∈Region.ready .any ops l→lq P cl ops Q i (Inv (l.setIfInBounds i true)) a w):
  ∀(fuel:Nat) (l:Array Bool) (a:Act) (w:World),Inv l a w→l.toList.count false≤fuel→rU P cl .any ops Q fuel l a w
 |0,l,a,w,h,hc=>by
  have hr:Region.ready .any ops l=[]:=by
   apply List.eq_nil_iff_forall_not_mem.2;intro j hj;have h1:=(mem_ready.1 hj).1
   have h2:false∈l.toList:=by
    rw[Array.getD_eq_getD_getElem?]at h1;cases h3:l[j]? with
    |none=>rw[h3]at h1;simp at h1
    |some b=>rw[h3]at h1;simp at h1;subst h1;rw[←Array.getElem?_toList]at h3;exact fU h3
   have:=List.count_pos_iff.2 h2
   omega
  exact⟨hr,Nn l a w h hr⟩
 |fuel+1,l,a,w,h,hc=>by
  refine⟨fun hr=>Nn l a w h hr,fun i hi=>zK (fun a' w' h'=>?_) (aek l a w i h hi)⟩;refine RY Inv Nn aek fuel _ a' w' h' ?_;have h1:=(mem_ready.1 hi).1
  have h3:l.toList[i]? =some false:=by
   rw[Array.getD_eq_getD_getElem?]at h1;rw[Array.getElem?_toList];cases h3:l[i]? with
   |none=>rw[h3]at h1;simp at h1
   |some b=>rw[h3]at h1;simp at h1;subst h1;rfl
  have:=count_set h3
  rw[Array.toList_setIfInBounds];omega
theorem np{cl:Nat→Bool}{ops:Array Oper}{Q:Exit→Act→World→Prop}{i:Nat}{o:Oper}{K:Act→World→Prop}{x:Value}(hi:ops[i]? =some o)(hg:o.guard=none)(hr:(execOp a.eval o).run P w= .ok (.value x) w)(hk:K (a.put o.dst x) w):lq P cl ops Q i K a w:=by
 unfold lq;rw[hi];dsimp only;rw[if_pos (by simp[Region.wanted,hg])];unfold mS;rw[hr];exact⟨hk,fun _=>cp.refl w⟩
theorem ME{cl:Nat→Bool}{ops:Array Oper}{Q:Exit→Act→World→Prop}{i:Nat}{o:Oper}{K:Act→World→Prop}(hi:ops[i]? =some o)(hg:o.guard=none)(hc:G6 cl o.op=false)(hr:(execOp a.eval o).run P w= .ok .skip w')(hk:K (a.put o.dst undef) w'):lq P cl ops Q i K a w:=by
 unfold lq;rw[hi];dsimp only;rw[if_pos (by simp[Region.wanted,hg])];unfold mS;rw[hr];exact⟨hk,fun h=>by rw[hc]at h;cases h⟩
abbrev FL:=List (Nat×Nat×Value)
def FOk(F:FL)(l:Array Bool)(a:Act):Prop:= ∀x∈F,l.getD x.1 false=true→a.tmps.getD x.2.1 undef=x.2.2
def FU(F:FL):Prop:= ∀x∈F,∀y∈F,(x.1=y.1→x=y)∧(x.2.1=y.2.1→x=y)
theorem IX{l:Array Bool}{i j:Nat}(h:(l.setIfInBounds i true).getD j false=true):j=i∨l.getD j false=true:=by
 simp only[Array.getD_eq_getD_getElem?,Array.getElem?_setIfInBounds]at h ⊢;by_cases hij:i=j
 ·exact .inl hij.symm
 ·rw[if_neg hij]at h;exact .inr h
theorem FOk.put{F:FL}{l:Array Bool}{i d:Nat}{v:Value}(hU:FU F)(h:FOk F l a)(hm:(i,d,v)∈F)(hd:d<a.tmps.size):FOk F (l.setIfInBounds i true) (a.put (some d) v):=by
 intro x hx hl;rw[xn a d x.2.1 v hd];by_cases hxd:x.2.1=d
 ·rw[if_pos hxd];have:=(hU x hx _ hm).2 hxd
  rw[this]
 ·rw[if_neg hxd];rcases IX hl with h1|h1
  ·have:=(hU x hx _ hm).1 h1
   rw[this]at hxd;exact absurd rfl hxd
  ·exact h x hx h1
theorem FOk.skip{F:FL}{l:Array Bool}{i:Nat}(h:FOk F l a)(hn: ∀x∈F,x.1≠i):FOk F (l.setIfInBounds i true) a:=fun x hx hl=>by
 rcases IX hl with h1|h1
 ·exact absurd h1 (hn x hx)
 ·exact h x hx h1
def iF:Value:= .string ⟨#[109,111,114,101]⟩
def hp3(H:Array Obj)(B2 bo oo:Nat)(c2 cO:Array Value)(e2 eO:Nat)(b6 b9:Bool):Array Obj:=
 let H6:=bif b6 then H.setIfInBounds B2 (.cells (c2.setIfInBounds 0 iF) e2 (0,0))else H
 bif b9 then H6.setIfInBounds bo (.cells (cO.setIfInBounds (oo+5) iF) eO (0,0))else H6
theorem Xr{H:Array Obj}{B2 bo oo:Nat}{c2 cO:Array Value}{e2 eO:Nat}{b6 b9:Bool}(h2:H[B2]? =some (.cells c2 e2 (0,0)))(dj:bo≠B2):(hp3 H B2 bo oo c2 cO e2 eO b6 b9)[B2]? =some (.cells (bif b6 then c2.setIfInBounds 0 iF else c2) e2 (0,0)):=by
 obtain⟨bc,_⟩:=Array.getElem?_eq_some_iff.1 h2;have h6:(bif b6 then H.setIfInBounds B2 (Obj.cells (c2.setIfInBounds 0 iF) e2 (0,0))else H)[B2]? =some (.cells (bif b6 then c2.setIfInBounds 0 iF else c2) e2 (0,0)):=by
  cases b6 with
  |false=>exact h2
  |true=>simp[bc]
 unfold hp3;cases b9 with
 |false=>exact h6
 |true=>show(Array.setIfInBounds _ _ _)[B2]? =_;rw[Array.getElem?_setIfInBounds_ne dj];exact h6
theorem aiU{H:Array Obj}{B2 bo oo:Nat}{c2 cO:Array Value}{e2 eO:Nat}{b6:Bool}(hO:H[bo]? =some (.cells cO eO (0,0)))(dj:bo≠B2):(hp3 H B2 bo oo c2 cO e2 eO b6 false)[bo]? =some (.cells cO eO (0,0)):=by
 unfold hp3;cases b6 with
 |false=>exact hO
 |true=>show(Array.setIfInBounds _ _ _)[bo]? =_;rw[Array.getElem?_setIfInBounds_ne (Ne.symm dj)];exact hO
theorem Xq{H:Array Obj}{B2 bo oo b o:Nat}{c2 cO:Array Value}{e2 eO:Nat}{b6:Bool}(dj:b≠B2):aW (hp3 H B2 bo oo c2 cO e2 eO b6 false) b o=aW H b o:=by
 have h:(hp3 H B2 bo oo c2 cO e2 eO b6 false)[b]? =H[b]? :=by
  unfold hp3;cases b6 with
  |false=>rfl
  |true=>show(Array.setIfInBounds _ _ _)[b]? =_;rw[Array.getElem?_setIfInBounds_ne (Ne.symm dj)]
 unfold aW;rw[h]
theorem MW{t b q:Nat}{ti:TI}{y:Value}{L:pN}(hL:bG P L)(ht:L t=some ti)(vh:ti.agg=false)(hl:ti.size=1)(hy:aW w.heap b q=some y):(Instr.loadAt t (.pointer (some ⟨b,q,none⟩))).run P w= .ok y w:=by
 have hp:part ti [AV.v y] 0=some (.v y):=by
  unfold part;rw[show oZ (0+ti.size) [AV.v y].length=true by rw[Af];simp[hl],vh];rfl
 obtain⟨y',g1,g2⟩:=kj (P:=P) (E:=⟨#[],fun _ _=>False,fun _=>0,fun _=>0,fun _=>False,fun _=>(0,0),fun _=> .WR,[]⟩) (w:=w) hL ht (b:=b) (o:=q) hp (fun j a' ha=>by
  cases j with
  |zero=>cases ha;exact⟨y,hy,.v _⟩
  |succ j=>simp at ha)
 have:=bX g2
 subst this;simpa using g1
theorem Ip{t b q e:Nat}{ti:TI}{c:Array Value}{s:ByteArray}{L:pN}(hL:bG P L)(ht:L t=some ti)(hl:ti.size=1)(hb:w.heap[b]? =some (.cells c e (0,0)))(hq:q<c.size):
  ∃w',(Instr.storeAt t (.pointer (some ⟨b,q,none⟩)) (.string s)).run P w= .ok () w'∧w'.heap=w.heap.setIfInBounds b (.cells (c.setIfInBounds q (.string s)) e (0,0))∧jQ w w':=by
 have jY:(Value.string s).cells= #[.string s]:=rfl
 obtain⟨w',g1,g2,g3⟩:=run_store (P:=P) hL ht (off:=q) (v:= .string s) hb (by rw[jY];exact hl.symm) (by omega) (by rw[jY];intro x hx;simp at hx;subst hx;rfl);rw[jY]at g2;exact⟨w',g1,by rw[g2];rfl,g3⟩
theorem iH{l:Array Bool}{i j:Nat}(h:j≠i):(l.setIfInBounds i true).getD j false=l.getD j false:=by
 simp only[Array.getD_eq_getD_getElem?,Array.getElem?_setIfInBounds_ne (Ne.symm h)]
theorem CP{l:Array Bool}{i:Nat}(h:i<l.size):(l.setIfInBounds i true).getD i false=true:=by
 simp[Array.getD_eq_getD_getElem?,h]
structure BU(w0:World)(H:Array Obj)(B2 bo oo:Nat)(c2 cO:Array Value)(e2 eO:Nat)(df:List Deferred)(base:Nat→Value)(F:FL)(l:Array Bool)(a:Act)(w:World):Prop where
 sz:l.size=10
 heap:w.heap=hp3 H B2 bo oo c2 cO e2 eO (l.getD 6 false) (l.getD 9 false)
 same:jQ w0 w
 last:l.getD 9 false=true→ ∀j,j<9→l.getD j false=true
 c8:l.getD 8 false=true→l.getD 7 false=true
 tm:a.tmps.size=29
 df:a.defers=df
 base: ∀d,d<3→a.tmps.getD d undef=base d
 fs:FOk F l a
section
variable{w0:World}{H:Array Obj}{B2 bo oo:Nat}{c2 cO:Array Value}{e2 eO:Nat}{df:List Deferred}{base:Nat→Value}{F:FL}{l:Array Bool}
theorem BU.no9(h:BU w0 H B2 bo oo c2 cO e2 eO df base F l a w){i:Nat}(hi:i<9)(hu:l.getD i true=false):l.getD 9 false=false:=by
 cases h9:l.getD 9 false with
 |false=>rfl
 |true=>
  have:=h.last h9 i hi
  have bc:i<l.size:=by rw[h.sz];omega
  simp only[Array.getD_eq_getD_getElem?,Array.getElem?_eq_getElem bc,Option.getD_some]at this hu;rw[this]at hu;cases hu
theorem BU.put(h:BU w0 H B2 bo oo c2 cO e2 eO df base F l a w){i d:Nat}{v:Value}(hU:FU F)(hi:i<9)(h6:i≠6)(hu:l.getD i true=false)(hm:(i,d,v)∈F)(hd:3≤d∧d<29)(h8:i=8→l.getD 7 false=true):
  BU w0 H B2 bo oo c2 cO e2 eO df base F (l.setIfInBounds i true) (a.put (some d) v) w:=by
 have h9:=h.no9 hi hu
 refine⟨by simpa using h.sz,?_,h.same,fun hh=>?_,fun hh=>?_,by simp[Act.put,h.tm],h.df,fun d' mI=>?_,h.fs.put hU hm (by rw[h.tm];exact hd.2)⟩
 ·rw[iH (Ne.symm h6),iH (by omega)];exact h.heap
 ·rw[iH (by omega),h9]at hh;cases hh
 ·by_cases h7:i=7
  ·subst h7;exact CP (by rw[h.sz];decide)
  ·rw[iH (Ne.symm h7)];by_cases h8':i=8
   ·exact h8 h8'
   ·rw[iH (Ne.symm h8')]at hh;exact h.c8 hh
 ·rw[xn a d d' v (by rw[h.tm];exact hd.2),if_neg (by omega)];exact h.base d' mI
theorem BU.s6(h:BU w0 H B2 bo oo c2 cO e2 eO df base F l a w)(hu:l.getD 6 true=false)(hF: ∀x∈F,x.1≠6){w':World}(h2:H[B2]? =some (.cells c2 e2 (0,0)))(hh:w'.heap=w.heap.setIfInBounds B2 (.cells (c2.setIfInBounds 0 iF) e2 (0,0)))(hs:jQ w w'):
  BU w0 H B2 bo oo c2 cO e2 eO df base F (l.setIfInBounds 6 true) a w':=by
 have h9:=h.no9 (by decide) hu
 have h6:l.getD 6 false=false:=by
  have bc:6<l.size:=by rw[h.sz];omega
  simp only[Array.getD_eq_getD_getElem?,Array.getElem?_eq_getElem bc,Option.getD_some]at hu ⊢;exact hu
 refine⟨by simpa using h.sz,?_,h.same.trans hs,fun hh=>?_,fun hh=>by rw[iH (by decide)]at hh ⊢;exact h.c8 hh,h.tm,h.df,h.base,h.fs.skip hF⟩
 ·rw[hh,h.heap,CP (by rw[h.sz];decide),iH (by decide),h9,h6];rfl
 ·rw[iH (by decide),h9]at hh;cases hh
theorem BU.s9(h:BU w0 H B2 bo oo c2 cO e2 eO df base F l a w)(hu:l.getD 9 true=false)(hF: ∀x∈F,x.1≠9)(lg: ∀j,j<9→j≠7→l.getD j false=true){w':World}(hh:w'.heap=w.heap.setIfInBounds bo (.cells (cO.setIfInBounds (oo+5) iF) eO (0,0)))(hs:jQ w w'):
  BU w0 H B2 bo oo c2 cO e2 eO df base F (l.setIfInBounds 9 true) a w':=by
 have h9:l.getD 9 false=false:=by
  have bc:9<l.size:=by rw[h.sz];omega
  simp only[Array.getD_eq_getD_getElem?,Array.getElem?_eq_getElem bc,Option.getD_some]at hu ⊢;exact hu
 have aos: ∀j,j<9→l.getD j false=true:=fun j hj=>by
  by_cases h7:j=7
  ·subst h7;exact h.c8 (lg 8 (by decide) (by decide))
  ·exact lg j hj h7
 refine⟨by simpa using h.sz,?_,h.same.trans hs,fun _ j hj=>?_,fun hh=>by rw[iH (by decide)]at hh ⊢;exact h.c8 hh,h.tm,h.df,h.base,h.fs.skip hF⟩
 ·rw[hh,h.heap,CP (by rw[h.sz];decide),iH (by decide),h9];rfl
 ·rw[iH (by omega)];exact aos j hj
end
def tu:Nat→Op×Option Nat
 |0=>(.fieldAddr 57 (.tmp 2) 2,some 14)
 |1=>(.load 55 (.tmp 14),some 15)
 |2=>(.indexAddr 55 (.tmp 15) (.const (.int .i64 0)),some 16)
 |3=>(.fieldAddr 61 (.tmp 16) 2,some 17)
 |4=>(.load 59 (.tmp 17),some 18)
 |5=>(.fieldAddr 57 (.tmp 2) 0,some 19)
 |6=>(.store 9 (.tmp 19) (.const iF),none)
 |7=>(.indexAddr 59 (.tmp 18) (.const (.int .i64 1)),some 20)
 |8=>(.fieldAddr 64 (.tmp 20) 1,some 21)
 |_=>(.store 9 (.tmp 21) (.const iF),none)
def oA:Nat→Nat→Bool
 |1,0=>true
 |2,1=>true
 |3,2=>true
 |4,3=>true
 |6,5=>true
 |7,4=>true
 |8,7=>true
 |9,j=>decide (j<9)&& !decide (j=7)
 |_,_=>false
def F3(B2 bb ob nb cb bo oo no co:Nat):FL:=
 [(0,14,.pointer (some ⟨B2,2,none⟩)),(1,15,.slice (some ⟨bb,ob,none⟩) nb cb),(2,16,.pointer (some ⟨bb,ob,none⟩)),(3,17,.pointer (some ⟨bb,ob+2,none⟩)),(4,18,.slice (some ⟨bo,oo,none⟩) no co),
  (5,19,.pointer (some ⟨B2,0,none⟩)),(7,20,.pointer (some ⟨bo,oo+4,none⟩)),(8,21,.pointer (some ⟨bo,oo+5,none⟩))]
theorem fu3{B2 bb ob nb cb bo oo no co:Nat}:FU (F3 B2 bb ob nb cb bo oo no co):=by
 intro x hx y hy;simp only[F3,List.mem_cons,List.mem_nil_iff,or_false]at hx hy;rcases hx with rfl|rfl|rfl|rfl|rfl|rfl|rfl|rfl<;>rcases hy with rfl|rfl|rfl|rfl|rfl|rfl|rfl|rfl<;>simp
theorem am5{cl:Nat→Bool}{ops:Array Oper}{Q:Exit→Act→World→Prop}(hk: ∀i,i<10→ ∃o,ops[i]? =some o∧o.guard=none∧o.op=(tu i).1∧o.dst=(tu i).2)
  (aur: ∀(l:Array Bool) i,i∈Region.ready .any ops l→i<10∧ ∀j,oA i j=true→l.getD j false=true)
  {w0:World}{H:Array Obj}{B2 bb ob nb cb bo oo no co:Nat}{c2 cO:Array Value}{e2 eO:Nat}{df:List Deferred}{base:Nat→Value}
  (CL:base 2= .pointer (some ⟨B2,0,none⟩))(h2:H[B2]? =some (.cells c2 e2 (0,0)))(h20:0<c2.size)(h22:c2[2]? =some (.slice (some ⟨bb,ob,none⟩) nb cb))(Zb:0<nb)(XI:aW H bb (ob+2)=some (.slice (some ⟨bo,oo,none⟩) no co))(HL:1<no)
  (hO:H[bo]? =some (.cells cO eO (0,0)))(hO5:oo+5<cO.size)(dj:bo≠B2)(at3:bb≠B2)
  (Nn: ∀l a w,BU w0 H B2 bo oo c2 cO e2 eO df base (F3 B2 bb ob nb cb bo oo no co) l a w→Region.ready .any ops l=[]→Q .normal a w)
  {l:Array Bool}{a:Act}{w:World}(h:BU w0 H B2 bo oo c2 cO e2 eO df base (F3 B2 bb ob nb cb bo oo no co) l a w)(fuel:Nat)(hf:l.toList.count false≤fuel):rU PP cl .any ops Q fuel l a w:=by
 refine RY (fun l a w=>BU w0 H B2 bo oo c2 cO e2 eO df base (F3 B2 bb ob nb cb bo oo no co) l a w) Nn (fun l a w i h hi=>?_) fuel l a w h hf;obtain⟨B8,hd⟩:=aur l i hi;have hu:=(mem_ready.1 hi).1
 obtain⟨o,ho,hg,xf,uc⟩:=hk i B8;have ev: ∀{j d:Nat} {v:Value},(j,d,v)∈F3 B2 bb ob nb cb bo oo no co→l.getD j false=true→a.eval (.tmp d)=v:=fun hm hl=>h.fs _ hm hl
 have e2':a.eval (.tmp 2)= .pointer (some ⟨B2,0,none⟩):=(h.base 2 (by decide)).trans CL
 match i,B8,xf,uc,hd,hu,ho with
 |0,_,xf,uc,hd,hu,ho=>
  refine np ho hg (x:= .pointer (some ⟨B2,2,none⟩)) ?_ (by rw[uc];exact h.put fu3 (by decide) (by decide) hu (by simp[F3]) (by decide) (by simp));simp only[execOp,xf,tu,e2'];simp[m0 (P:=PP) lay (show iJ L 57 2=some 2 from rfl)]
 |1,_,xf,uc,hd,hu,ho=>
  refine np ho hg (x:= .slice (some ⟨bb,ob,none⟩) nb cb) ?_ (by rw[uc];exact h.put fu3 (by decide) (by decide) hu (by simp[F3]) (by decide) (by simp));have hc:aW w.heap B2 2=some (.slice (some ⟨bb,ob,none⟩) nb cb):=by
   rw[h.heap];unfold aW;rw[Xr h2 dj];cases l.getD 6 false with
   |false=>exact h22
   |true=>show(c2.setIfInBounds 0 iF)[2]? =_;rw[Array.getElem?_setIfInBounds_ne (by decide)];exact h22
  have:=MW (P:=PP) (t:=55) lay (show L 55=some _ from rfl) rfl rfl hc
  simp only[execOp,xf,tu,ev (j:=0) (d:=14) (by simp[F3];rfl) (hd 0 rfl)];simp[this]
 |2,_,xf,uc,hd,hu,ho=>
  refine np ho hg (x:= .pointer (some ⟨bb,ob,none⟩)) ?_ (by rw[uc];exact h.put fu3 (by decide) (by decide) hu (by simp[F3]) (by decide) (by simp));have:=km (P:=PP) (t:=55) lay (show elemOf L 55=some (61,_)from rfl) .i64 0 bb ob nb cb (by decide) (by omega) w
  simp only[execOp,xf,tu,ev (j:=1) (d:=15) (by simp[F3];rfl) (hd 1 rfl)];simp at this;simp[Act.eval,this]
 |3,_,xf,uc,hd,hu,ho=>
  refine np ho hg (x:= .pointer (some ⟨bb,ob+2,none⟩)) ?_ (by rw[uc];exact h.put fu3 (by decide) (by decide) hu (by simp[F3]) (by decide) (by simp));simp only[execOp,xf,tu,ev (j:=2) (d:=16) (by simp[F3];rfl) (hd 2 rfl)];simp[m0 (P:=PP) lay (show iJ L 61 2=some 2 from rfl)]
 |4,_,xf,uc,hd,hu,ho=>
  refine np ho hg (x:= .slice (some ⟨bo,oo,none⟩) no co) ?_ (by rw[uc];exact h.put fu3 (by decide) (by decide) hu (by simp[F3]) (by decide) (by simp));have hc:aW w.heap bb (ob+2)=some (.slice (some ⟨bo,oo,none⟩) no co):=by
   rw[h.heap,h.no9 (by decide) hu,Xq at3];exact XI
  have:=MW (P:=PP) (t:=59) lay (show L 59=some _ from rfl) rfl rfl hc
  simp only[execOp,xf,tu,ev (j:=3) (d:=17) (by simp[F3];rfl) (hd 3 rfl)];simp[this]
 |5,_,xf,uc,hd,hu,ho=>
  refine np ho hg (x:= .pointer (some ⟨B2,0,none⟩)) ?_ (by rw[uc];exact h.put fu3 (by decide) (by decide) hu (by simp[F3]) (by decide) (by simp));simp only[execOp,xf,tu,e2'];simp[m0 (P:=PP) lay (show iJ L 57 0=some 0 from rfl)]
 |6,_,xf,uc,hd,hu,ho=>
  have h6:l.getD 6 false=false:=by
   have bc:6<l.size:=by rw[h.sz];omega
   simp only[Array.getD_eq_getD_getElem?,Array.getElem?_eq_getElem bc,Option.getD_some]at hu ⊢;exact hu
  have hc:w.heap[B2]? =some (.cells c2 e2 (0,0)):=by rw[h.heap,Xr h2 dj,h6];rfl
  obtain⟨w',g1,g2,g3⟩:=Ip (P:=PP) (t:=9) (s:=⟨#[109,111,114,101]⟩) lay (show L 9=some _ from rfl) rfl hc (q:=0) h20;refine ME ho hg (by rw[xf];rfl) ?_ (by rw[uc];exact h.s6 hu (by simp[F3]) h2 g2 g3);simp only[execOp,xf,tu,ev (j:=5) (d:=19) (by simp[F3];rfl) (hd 5 rfl)];simp[Act.eval,iF,g1]
 |7,_,xf,uc,hd,hu,ho=>
  refine np ho hg (x:= .pointer (some ⟨bo,oo+4,none⟩)) ?_ (by rw[uc];exact h.put fu3 (by decide) (by decide) hu (by simp[F3]) (by decide) (by simp));have:=km (P:=PP) (t:=59) lay (show elemOf L 59=some (64,_)from rfl) .i64 1 bo oo no co (by decide) (by omega) w
  simp only[execOp,xf,tu,ev (j:=4) (d:=18) (by simp[F3];rfl) (hd 4 rfl)];simp at this;simp[Act.eval,this]
 |8,_,xf,uc,hd,hu,ho=>
  refine np ho hg (x:= .pointer (some ⟨bo,oo+5,none⟩)) ?_ (by rw[uc];exact h.put fu3 (by decide) (by decide) hu (by simp[F3]) (by decide) (fun _=>hd 7 rfl));simp only[execOp,xf,tu,ev (j:=7) (d:=20) (by simp[F3];rfl) (hd 7 rfl)];simp[m0 (P:=PP) lay (show iJ L 64 1=some 1 from rfl)]
 |9,_,xf,uc,hd,hu,ho=>
  have h9:l.getD 9 false=false:=by
   have bc:9<l.size:=by rw[h.sz];omega
   simp only[Array.getD_eq_getD_getElem?,Array.getElem?_eq_getElem bc,Option.getD_some]at hu ⊢;exact hu
  have hc:w.heap[bo]? =some (.cells cO eO (0,0)):=by rw[h.heap,h9];exact aiU hO dj
  obtain⟨w',g1,g2,g3⟩:=Ip (P:=PP) (t:=9) (s:=⟨#[109,111,114,101]⟩) lay (show L 9=some _ from rfl) rfl hc hO5;refine ME ho hg (by rw[xf];rfl) ?_ (by rw[uc];exact h.s9 hu (by simp[F3]) (fun j hj h7=>hd j (by simp[oA,hj,h7])) g2 g3);simp only[execOp,xf,tu,ev (j:=8) (d:=21) (by simp[F3];rfl) (hd 8 (by decide))];simp[Act.eval,iF,g1]
 |n+10,B8,_,_,_,_,_=>omega
theorem bJ.al3{E0:Env}{w0:World}{s:St}(h:bJ E0 E w0 w s a){d:Nat}{cs cs':List AV}(hk:look d s.b=some (.box cs))(hl:cs'.length=cs.length)
  (hc: ∀c e,E.h[E.m (.s d)]? =some (.cells c e (0,0))→ ∀(q:Nat) (av:AV) (x:Value),cs'[q]? =some av→c[q]? =some x→Cz E av x):bJ E0 E w0 w {s with b:=dt d (.box cs') s.b} a:=by
 have hp: ∀p:Path,bp {s with b:=dt d (.box cs') s.b} p↔bp s p:=fun p=>nj fun _ _=>rfl
 refine⟨h.heap,h.wf,h.Lv,h.up,h.sz,fun d' x hd yL=>h.tm d' x hd ((hp _).1 yL),fun d' q hd yL=>h.cu d' q hd fun hh=>yL ((hp _).2 hh),fun d' ob hd=>?_,fun d' hlv=>?_,h.gx,h.gl,h.ext,h.zu,h.same,h.gk,h.nl,h.ng,h.lo⟩
 ·have hd:look d' (dt d (.box cs') s.b)=some ob:=hd
  rw[aJ]at hd;by_cases uy:d=d'
  ·subst uy;rw[if_pos rfl]at hd;cases hd;obtain⟨h1,c,e,h2,h3,h4,h5,_⟩:=h.bx d _ hk;exact⟨h1,c,e,h2,h3,h4,h5.trans hl.symm,hc c e h2⟩
  ·rw[if_neg uy]at hd;exact h.bx d' ob hd
 ·obtain⟨ob,ho⟩:=h.lv d' hlv;show∃ob,look d' (dt d (.box cs') s.b)=some ob;rw[aJ];by_cases uy:d=d'
  ·exact⟨_,if_pos uy⟩
  ·exact⟨ob,by rw[if_neg uy];exact ho⟩
end Ab
namespace Ab
open Go
variable{P:Program}{E E' E0:Env}{w w' w0:World}{a:Act}{s:St}
 mutual
def Kv(x:Value):AV→Prop
  | .v y=>y≠x
  | .sl _ xs=>MI x xs
  |_=>False
def noL(x:Value):List AV→Prop
  |[]=>True
  |a::l=>Kv x a∧noL x l
def MI(x:Value):List (List AV)→Prop
  |[]=>True
  |a::l=>noL x a∧MI x l
end
theorem Rc{x:Value}: ∀{cs:List AV},noL x cs→ ∀(q:Nat) (a:AV),cs[q]? =some a→Kv x a
 |[],_,q,a,h=>by simp at h
 |y::l,h,q,a,hq=>by
  simp only[noL]at h;cases q with
  |zero=>simp at hq;subst hq;exact h.1
  |succ q=>exact Rc h.2 q a (by simpa using hq)
theorem Gc{x:Value}: ∀{xs:List (List AV)},MI x xs→ ∀(q:Nat) (a:AV),xs.flatten[q]? =some a→Kv x a
 |[],_,q,a,h=>by simp at h
 |y::l,h,q,a,hq=>by
  simp only[MI]at h;rw[List.flatten_cons]at hq;by_cases bc:q<y.length
  ·rw[gg bc]at hq;exact Rc h.1 q a hq
  ·rw[iY (by omega)]at hq;exact Gc h.2 _ a hq
theorem ah3{a:AV}{t:ByteArray}(h:Cz E a (.string t))(hn:Kv (.string t) a):False:=by
 cases h with
 |v=>simp only[Kv]at hn;exact hn rfl
 |any=>simp only[Kv]at hn
 |nG=>simp only[Kv]at hn
structure YI(E E':Env)(bo oo:Nat)(t:ByteArray):Prop where
 aR: ∀b o,E.aR b o→E'.aR b o
 eo: ∀b,E'.eo b=E.eo b
 cell: ∀b o,¬(b=bo∧o=oo)→aW E'.h b o=aW E.h b o
 was:aW E.h bo oo=some (.string t)
theorem YI.bH{bo oo:Nat}{t:ByteArray}(k:YI E E' bo oo t){b o:Nat}{a:AV}{x:Value}(hx:aW E.h b o=some x)(h:Cz E a x)(hn:Kv (.string t) a):aW E'.h b o=some x:=by
 rw[k.cell b o fun hh=>by
  obtain⟨rfl,rfl⟩:=hh;rw[k.was]at hx;cases hx;exact ah3 h hn]
 exact hx
theorem Cz.asK{bo oo:Nat}{t:ByteArray}(k:YI E E' bo oo t){av:AV}{x:Value}(h:Cz E av x):Kv (.string t) av→Cz E' av x:=by
 induction h with
 |v x=>exact fun _=> .v _
 |pd q A c=>exact fun _=> .pd _ _ _
 |sl q xs z b o c u hp hc hm ew hz hr hi hs hu hq ih=>
  intro hn;simp only[Kv]at hn;exact .sl q xs z b o c u hp hc hm ew hz ((k.eo b).trans hr) hi (fun i a ha=>k.aR _ _ (hs i a ha)) (fun i a ha=>k.bH (hu i a ha) (hq i a ha) (Gc hn i a ha)) (fun i a ha=>ih i a ha (Gc hn i a ha))
 |_=>intro h;simp only[Kv]at h
theorem Cz.slN{r:Nat}{xs ys:List (List AV)}{z b o n c:Nat}(h:Cz E (.sl r xs) (.slice (some ⟨b,o,none⟩) n c))(hx:0<xs.length)(hl:ys.length=xs.length)(hz: ∀l∈xs,l.length=z)(zx: ∀l∈ys,l.length=z)(h0:0<z)(gZ: ∀b o,E.aR b o→E'.aR b o)(Xo: ∀b,E'.eo b=E.eo b)
  (hi: ∀(q:Nat) (a:AV),ys.flatten[q]? =some a→cH a=true)
  (hq: ∀(q:Nat) (a' a:AV) (x:Value),ys.flatten[q]? =some a'→xs.flatten[q]? =some a→aW E.h b (o+q)=some x→Cz E a x→ ∃y,aW E'.h b (o+q)=some y∧Cz E' a' y):Cz E' (.sl r ys) (.slice (some ⟨b,o,none⟩) n c):=by
 cases h with
 |pd=>simp at hx
 |sl _ _ z' _ _ _ u hp hc hm ew Tt hr hii hs hu hqq=>
  have hf:=aH hz
  have hf':=aH zx
  have get: ∀q a',ys.flatten[q]? =some a'→ ∃a,xs.flatten[q]? =some a:=fun q a' ha=>by
   have:=(bq.1 ha).1
   have bc:q<xs.flatten.length:=by rw[hf,←hl,←hf'];exact this
   exact⟨_,eH bc⟩
  have key: ∀q a',ys.flatten[q]? =some a'→ ∃y,aW E'.h b (o+q)=some y∧Cz E' a' y:=fun q a' ha=>by
   obtain⟨a,h1⟩:=get q a' ha;exact hq q a' a _ ha h1 (hu q a h1) (hqq q a h1)
  have:=Cz.sl (E:=E') r ys z b o c (fun q=>(aW E'.h b (o+q)).getD undef) (by omega) (by omega) hm h0 zx ((Xo b).trans hr) hi (fun q a' ha=>by obtain⟨a,h1⟩:=get q a' ha;exact gZ _ _ (hs q a h1))
   (fun q a' ha=>by obtain⟨y,h1,_⟩:=key q a' ha;rw[h1];rfl) (fun q a' ha=>by obtain⟨y,h1,h2⟩:=key q a' ha;rw[h1];exact h2)
  rw[hl]at this;exact this
end Ab
namespace Ab
open Go
variable{E:Env}{r n0:Nat}
 mutual
def upA(r:Nat):AV→AV
  | .sl _ xs=> .sl r (Fq r xs)
  | .agg cs=> .agg (QQ r cs)
  | .gY cs=> .gY (QQ r cs)
  | .v x=> .v x
  |_=> .any
def QQ(r:Nat):List AV→List AV
  |[]=>[]
  |a::l=>upA r a::QQ r l
def Fq(r:Nat):List (List AV)→List (List AV)
  |[]=>[]
  |a::l=>QQ r a::Fq r l
end
 mutual
def HiA:AV→Prop
  | .sl q xs=>1000000≤q∧YM xs
  | .agg cs=>HiL cs
  | .gY cs=>HiL cs
  |_=>True
def HiL:List AV→Prop
  |[]=>True
  |a::l=>HiA a∧HiL l
def YM:List (List AV)→Prop
  |[]=>True
  |a::l=>HiL a∧YM l
end
theorem yz: ∀(l:List AV) (q:Nat),(QQ r l)[q]? =(l[q]?).map (upA r)
 |[],q=>by simp[QQ]
 |a::l,q=>by cases q<;>simp[QQ,yz l]
theorem EL: ∀(l:List AV),(QQ r l).length=l.length
 |[]=>rfl
 |a::l=>by simp[QQ,EL l]
theorem LV: ∀(l:List (List AV)),(Fq r l).length=l.length
 |[]=>rfl
 |a::l=>by simp[Fq,LV l]
theorem LU{z:Nat}: ∀{l:List (List AV)},(∀x∈l,x.length=z)→ ∀x∈Fq r l,x.length=z
 |[],_,x,h=>by simp[Fq]at h
 |a::l,hz,x,h=>by
  simp only[Fq,List.mem_cons]at h;rcases h with rfl|h
  ·rw[EL];exact hz a (by simp)
  ·exact LU (fun y hy=>hz y (by simp[hy])) x h
theorem Ii: ∀(l:List (List AV)),(Fq r l).flatten=QQ r l.flatten
 |[]=>rfl
 |a::l=>by
  simp only[Fq,List.flatten_cons,Ii l]
  induction a with
  |nil=>simp[QQ]
  |cons x a ih=>simp only[QQ,List.cons_append];rw[←ih]
theorem E8: ∀{cs:List AV},HiL cs→ ∀(q:Nat) (a:AV),cs[q]? =some a→HiA a
 |[],_,q,a,h=>by simp at h
 |x::l,h,q,a,hq=>by
  simp only[HiL]at h;cases q with
  |zero=>simp at hq;subst hq;exact h.1
  |succ q=>exact E8 h.2 q a (by simpa using hq)
theorem NX: ∀{xs:List (List AV)},YM xs→ ∀(q:Nat) (a:AV),xs.flatten[q]? =some a→HiA a
 |[],_,q,a,h=>by simp at h
 |x::l,h,q,a,hq=>by
  simp only[YM]at h;rw[List.flatten_cons]at hq;by_cases bc:q<x.length
  ·rw[gg bc]at hq;exact E8 h.1 q a hq
  ·rw[iY (by omega)]at hq;exact NX h.2 _ a hq
theorem KO(r:Nat): ∀a:AV,cH a=true→cH (upA r a)=true
 | .sl _ _,_=>rfl
 | .v _,_=>rfl
 | .any,_=>rfl
 | .gs ..,_=>rfl
 | .aX ..,_=>rfl
 | .ptr ..,_=>rfl
 | .jB ..,_=>rfl
 | .dc ..,_=>rfl
 | .mp _,_=>rfl
 | .rQ _,_=>rfl
 | .ar ..,_=>rfl
 | .fn ..,_=>rfl
 | .bm ..,_=>rfl
 | .nG ..,_=>rfl
 | .agg cs,h=>yK fun q b hb=>by
  have hb:(QQ r cs)[q]? =some b:=hb
  rw[yz]at hb;cases hc:cs[q]? with
  |none=>rw[hc]at hb;cases hb
  |some c=>rw[hc]at hb;cases hb;exact KO r c (bD (show cw cs=true from h) q c hc)
 | .gY cs,h=>yK fun q b hb=>by
  have hb:(QQ r cs)[q]? =some b:=hb
  rw[yz]at hb;cases hc:cs[q]? with
  |none=>rw[hc]at hb;cases hb
  |some c=>rw[hc]at hb;cases hb;exact KO r c (bD (show cw cs=true from h) q c hc)
 termination_by a=>sizeOf a
 decreasing_by all_goals(simp_wf;have:=List.sizeOf_lt_of_mem (fU hc);omega)
def Env.upE(E:Env)(reg':Nat→Nat):Env:={E with eo:=reg'}
theorem Cz.up{reg':Nat→Nat}(Xo: ∀b,n0≤b→reg' b=r)(xU: ∀b o,E.aR b o→1000000≤E.eo b→n0≤b){av:AV}{x:Value}(h:Cz E av x):HiA av→Cz (E.upE reg') (upA r av) x:=by
 induction h with
 |v x=>exact fun _=> .v _
 |pd q A c=>exact fun _=> .pd _ _ _
 |sl q xs z b o c u hp hc hm ew hz hr hi hs hu hq ih=>
  intro hn;simp only[HiA]at hn;have hf:=aH hz
  obtain⟨a0,XK⟩:=sn (l:=xs.flatten) (by rw[hf];exact Nat.mul_pos hp ew);have hb:=xU b _ (hs 0 a0 XK) (by rw[hr];exact hn.1)
  have get: ∀q a,(Fq r xs).flatten[q]? =some a→ ∃a',xs.flatten[q]? =some a'∧a=upA r a':=fun q a ha=>by
   rw[Ii,yz]at ha;cases hx:xs.flatten[q]? with
   |none=>rw[hx]at ha;cases ha
   |some a'=>rw[hx]at ha;cases ha;exact⟨a',hx,rfl⟩
  have hl:=LV (r:=r) xs
  have:=Cz.sl (E:=E.upE reg') r (Fq r xs) z b o c u (by rw[hl];exact hp) (by rw[hl];exact hc) hm ew (LU hz) (Xo b hb)
   (fun i a ha=>by obtain⟨a',h1,rfl⟩:=get i a ha;exact KO r a' (hi i a' h1)) (fun i a ha=>by obtain⟨a',h1,rfl⟩:=get i a ha;exact hs i a' h1) (fun i a ha=>by obtain⟨a',h1,rfl⟩:=get i a ha;exact hu i a' h1) (fun i a ha=>by obtain⟨a',h1,rfl⟩:=get i a ha;exact ih i a' h1 (NX hn.2 i a' h1))
  rw[hl]at this;exact this
 |agg cs ys hl hq ih=>
  intro h;simp only[HiA]at h;refine .agg _ ys (by rw[EL];exact hl) fun q a y ha hy=>?_;rw[yz]at ha;cases hc:cs[q]? with
  |none=>rw[hc]at ha;cases ha
  |some a0=>rw[hc]at ha;cases ha;exact ih q a0 y hc hy (E8 h q a0 hc)
 |gY cs ys hl hq ih=>
  intro h;simp only[HiA]at h;refine .gY _ ys (by rw[EL];exact hl) fun q a y ha hy=>?_;rw[yz]at ha;cases hc:cs[q]? with
  |none=>rw[hc]at ha;cases ha
  |some a0=>rw[hc]at ha;cases ha;exact ih q a0 y hc hy (E8 h q a0 hc)
 |_=>exact fun _=> .any _
theorem wK.ana{P:Program}{f:Nat}{args:List AV}{res:AV}(h: ∀(g:Nat→Option Ob),(∀i,g i=none)→ ∀nx,wK P true f args g nx fun r1 g1 A7=>Lq r1 res∧g1=g∧A7=nx)(Xx:aeM args)(fO:HiA res)(ai7:cH res=true)(g:Nat→Option Ob)(nx:Nat){r:Nat}(hr:r<1000000):
  lR P f args g nx (upA r res) g nx:=by
 intro hi E w vs hG hl hv;have hg:=Ga hG
 have ai3: ∀b,E.qW.eo b<1000000:=fun b=>by show(if E.eo b<1000000 then E.eo b else 0)<1000000;split<;>omega
 have hG1:yn E.qW w g nx:=⟨hG.heap,⟨hG.wf.aR,hG.wf.own,fun b o _ hr=>by have:=ai3 b;omega⟩,hG.nl,hG.gl,hG.own,hG.gk,fun i ob hh=>(by rw[hg i]at hh;cases hh),hG.ng⟩
 refine(h g hg nx hi E.qW w vs hG1 (fun _ b o _=>ai3 b) hl fun q a y ha hy=>(hv q a y ha hy).qW fun r hr=>pV (Xx r hr) q a ha).mono ?_
 rintro e w' ⟨r1,g',jf,x,E1,⟨e1,e2,e3⟩,e4,Lu,hE,hS,hc,hir,Np⟩
 subst e2;subst e3;have hx:Cz E1 res x:=yx e1 hc
 have hkr: ∀b,b<E.h.size→E1.eo b=E.qW.eo b:=fun b hb=>(hE.bH b hb (hG.ng b)).2.2.2
 have Lr:=hx.up (n0:=E.h.size) (r:=r) (reg':=fun b=>if b<E.h.size then E.eo b else r) (fun b hb=>if_neg (by omega)) (fun b o hs hr=>by
  rcases Nat.lt_or_ge b E.h.size with hb|hb
  ·have:=hkr b hb;have:=ai3 b;omega
  ·exact hb) fO
 refine⟨x,E1.upE fun b=>if b<E.h.size then E.eo b else r,e4,⟨Lu.heap,⟨Lu.wf.aR,Lu.wf.own,fun b o hs B7=>?_⟩,Lu.nl,Lu.gl,Lu.own,Lu.gk,fun i ob hh=>(by rw[hg i]at hh;cases hh),Lu.ng⟩,⟨hE.size,fun b o hs=>⟨(hE.aR b o hs).1,(hE.aR b o hs).2.1,by show(if b<E.h.size then E.eo b else r)=E.eo b;rw[if_pos (hG.wf.aR b o hs)]⟩,hE.live,fun b hb hn=>?_⟩,hS,Lr,KO r res ai7,Np⟩
 ·have B7:1000000≤(if b<E.h.size then E.eo b else r):=B7
  by_cases hb:b<E.h.size
  ·rw[if_pos hb]at B7;have hk:=hE.bH b hb (hG.ng b)
   obtain⟨c,e,h1⟩:=hG.wf.fz b o ((hk.2.2.1 o).1 hs) B7;exact⟨c,e,hk.2.1.trans h1⟩
  ·rw[if_neg hb]at B7;omega
 ·have hk:=hE.bH b hb hn
  exact⟨hk.1,hk.2.1,hk.2.2.1,by show(if b<E.h.size then E.eo b else r)=E.eo b;rw[if_pos hb]⟩
end Ab
namespace Ab
open Go
variable{P:Program}{L:pN}{E0 E:Env}{w0 w w':World}{s:St}{a:Act}{C:ey}
theorem Lf{f:Nat}{fn:Func}{c:Code}(hf:P.funcs[f]? =some fn)(hb:fn.body=some c){vs:List Value}{Q:Ex→St→Prop}{R:Ending→World→Prop}
  (atS:c.wpIn (WF none) 0 P (DZ E0 w0 Q) {tmps:=vs.toArray++Array.replicate (fn.ntmps - vs.toArray.size) undef,defers:=[]} w)(hex: ∀k s',¬Q (.exit k) s')
  (KU: ∀s' E' w' tmps,(Q .normal s'∨Q .ret s')→bJ E0 E' w0 w' s' {tmps:=tmps,defers:=[]}→ ∃v,(results fn tmps).run P w'= .ok v w'∧R (.returned v) w'):Calls P f vs.toArray w R:=by
 refine(callsIn_wide (n:=0)).1 (callsIn_of_wp_marks (F:=Fence.wide) hf hb trivial ?_ rfl);refine wpIn_mono (F:=Fence.wide) atS fun e a w' hq=>?_;cases e with
 |normal=>obtain⟨s',E',h1,h2⟩:=hq;exact uR h2 fun E2 w2 h3=>KU s' E2 w2 _ (.inl h1) h3
 |ret=>obtain⟨s',E',h1,h2⟩:=hq;exact uR h2 fun E2 w2 h3=>KU s' E2 w2 _ (.inr h1) h3
 |exit k=>obtain⟨s',E',h1,h2⟩:=hq;exact absurd h1 (hex k s')
 |goto l=>exact hq.elim
 |panic c=>exact hq.elim
 |outgrown=>exact hq.elim
theorem wK.ofRaw(ok:Ok P C){f:Nat}{fn:Func}{c:Code}(hf:P.funcs[f]? =some fn)(hb:fn.body=some c){args:List AV}{g:Nat→Option Ob}{nx:Nat}
  (hn:args.length≤fn.ntmps){R:AV→(Nat→Option Ob)→Nat→Prop}(fl:Bool)
  (hk: ∀{E0 E:Env} {w:World} {a:Act},bJ E0 E w w (init fn.ntmps args g nx fl) a→c.wpIn (WF none) 0 P (DZ E0 w (post C fn.results.toList R)) a w):wK P fl f args g nx R:=by
 intro hi E w vs hG hD hl hv;refine Lf hf hb (hk (Nb hG hD hl hn hv)) (fun k s' h=>h) fun s' E1 w' tmps hq h=>?_;have hr:Hu C fn.results.toList s' R:=hq.elim id id
 unfold Hu at hr;cases h1:uE C.L s' fn.results.toList with
 |none=>rw[h1]at hr;exact hr.elim
 |some vs=>
  rw[h1]at hr;dsimp only at hr;cases h2:kV C.ρ (lB vs) s' with
  |none=>rw[h2]at hr;exact hr.elim
  |some s1=>
   rw[h2]at hr;dsimp only at hr;cases h3:uE C.L s1 fn.results.toList with
   |none=>rw[h3]at hr;exact hr.elim
   |some Ov=>
    rw[h3]at hr;obtain⟨hrp,nw,hR⟩:=hr;rw[CQ]at hR;obtain⟨E2,Br,_⟩:=fc h h2;obtain⟨x,h4,h5⟩:=tU ok Br h3 hrp;have XD:Ab.cH (single (Ov.map rd))=true:=by
     unfold single
     split
     ·rename_i v hv;rw[hv]at nw;simp only[cw,Bool.and_true]at nw;exact nw
     ·exact nw
    refine⟨x,h4,_,_,_,x,E2.mask,hR,rfl,Br.mask,?_,Br.same,?_,?_,fun b hb=>?_⟩
    ·refine⟨Br.ext.size,Br.ext.aR,fun k hk=>?_,fun b hb hg=>?_⟩
     ·cases k with
      |s d=>exact absurd hk (hG.nl d)
      |o i=>obtain⟨k1,k2,k3⟩:=Br.ext.live _ hk;exact⟨⟨rfl,k1⟩,k2,k3⟩
     ·obtain⟨k1,k2,k3,k4⟩:=Br.ext.bH b hb hg;refine⟨?_,k2,k3,k4⟩;simp only[Env.mask];have k1':E2.own b=E.own b:=k1
      rw[k1',hG.own b];rfl
    ·refine(Bg E2).cH ?_ ?_
     ·have h6:single (Ov.map rd)=rd (single Ov):=by
       unfold single;cases Ov with
       |nil=>rfl
       |cons v r=>cases r with
        |nil=>rfl
        |cons v2 r2=>
         simp only[List.map_cons,rd,sR];rw[show mP (fun _=>true) (v::v2::r2)=(v::v2::r2).map (sR fun _=>true)from by
          generalize v::v2::r2=l
          induction l with
          |nil=>rfl
          |cons x l ih=>simp[mP,ih]]
         rfl
      rw[h6];exact(Cz.ext (Ext.refl (fun _=>False) E2) Br.wf (fun _=>true) (fun _ h=>h.elim) h5).1
     ·exact XD
    ·exact XD
    ·have k2:=(Br.ext.bH b (by show b<E.h.size;rw[←hG.heap];exact hb) (hG.ng b)).2.1
     rw[Br.heap,hG.heap];exact k2
end Ab
namespace Ab
open Go
section
variable{α R S A:Type}
theorem adX(a b:Int):ak.add a b=a+b:=rfl
theorem adV(a b:Int):ak.sub a b=a - b:=rfl
theorem bU(a b:Int):ak.aS a b=decide (a=b):=rfl
theorem fW(a b:Int):ak.bf a b=decide (a<b):=rfl
theorem zt(a b:Int):ak.rL a b=decide (a≤b):=rfl
theorem jx(a b:ByteArray):ak.seq a b=decide (a=b):=rfl
theorem bQ(a:Bool):ak.not a= !a:=rfl
theorem adW(a b:Bool):ak.beq a b=(a==b):=rfl
theorem bg(c a b:Bool):ak.pick c a b=(bif c then a else b):=rfl
theorem aT{body:(S→Option R)→S→Option R}(mk:A→Nat→S)(G:A→List α→Nat→Option R)(P:A→Nat→Prop)(l:List α)(hl:l.length≤9223372036854775806)
  (h1: ∀(self:S→Option R) (a:A) (i:Nat) (x:α) (r:List α),P a i→l.drop i=x::r→i<l.length→gI l (i:Int)=some x→ak.bf (i:Int) (aw l)=true→ak.wrap .i64 (ak.add (i:Int) 1)=((i+1:Nat):Int)→
   (∀a',P a' (i+1)→self (mk a' (i+1))=G a' r (i+1))→body self (mk a i)=G a (x::r) i)
  (h2: ∀(self:S→Option R) (a:A),P a l.length→ak.bf (l.length:Int) (aw l)=false→body self (mk a l.length)=G a [] l.length)(n:Nat)(hn:l.length<n)(a:A)(ha:P a 0):iter body n (mk a 0)=G a l 0:=by
 have key: ∀(r:List α) (i n:Nat) (a:A),P a i→l.drop i=r→i≤l.length→r.length<n→iter body n (mk a i)=G a r i:=by
  intro r
  induction r with
  |nil=>
   intro i n a hp hd hi hn;obtain⟨m,rfl⟩: ∃m,n=m+1:=⟨n - 1,by simp at hn;omega⟩;have P7:l.length≤i:=by simpa using hd
   have:i=l.length:=by omega
   subst this;exact h2 _ a hp (by show decide ((l.length:Int)<l.length)=false;simp)
  |cons x r ih=>
   intro i n a hp hd hi hn;obtain⟨m,rfl⟩: ∃m,n=m+1:=⟨n - 1,by simp at hn;omega⟩;have bc:i<l.length:=by
    rcases Nat.lt_or_ge i l.length with h|h
    ·exact h
    ·rw[List.drop_eq_nil_of_le h]at hd;cases hd
   have hx:l[i]? =some x:=by
    have:=List.getElem?_drop (xs:=l) (i:=i) (j:=0)
    rw[hd]at this;simpa using this.symm
   have mI:l.drop (i+1)=r:=by
    have:(l.drop i).drop 1=l.drop (i+1):=by rw[List.drop_drop]
    rw[←this,hd];rfl
   refine h1 _ a i x r hp hd bc (by unfold gI;rw[if_pos (by omega)];simpa using hx) (by show decide ((i:Int)<l.length)=true;simp;omega) (by show IntKind.wrap .i64 ((i:Int)+1)=_;rw[bL (by omega)];rfl) fun a' Xs=>?_;exact ih (i+1) m a' Xs mI bc (by simp at hn;omega)
 exact key l 0 n a ha rfl (Nat.zero_le _) hn
theorem fM{body:(Int→Option R)→Int→Option R}(G:List α→Nat→Option R)(l:List α)(hl:l.length≤9223372036854775806)
  (h1: ∀(self:Int→Option R) (i:Nat) (x:α) (r:List α),l.drop i=x::r→i<l.length→gI l (i:Int)=some x→ak.bf (i:Int) (aw l)=true→ak.wrap .i64 (ak.add (i:Int) 1)=((i+1:Nat):Int)→
   self ((i+1:Nat):Int)=G r (i+1)→body self (i:Int)=G (x::r) i)
  (h2: ∀(self:Int→Option R),ak.bf (l.length:Int) (aw l)=false→body self (l.length:Int)=G [] l.length)(n:Nat)(hn:l.length<n):iter body n 0=G l 0:=
 aT (A:={u:Unit // True}) (mk:=fun _ i=>(i:Int)) (fun _=>G) (fun _ _=>True) l hl (fun self _ i x r _ hd hi e1 e2 e3 ih=>h1 self i x r hd hi e1 e2 e3 (ih ⟨(),trivial⟩ trivial)) (fun self _ _ e=>h2 self e) n hn ⟨(),trivial⟩ trivial
theorem aeE{p:List α}{x:α}{r:List α}:gI (p++x::r) (p.length:Int)=some x:=by simp[gI]
theorem bK{l:List α}{i:Nat}:gI l (i:Int)=l[i]? :=by simp[gI]
theorem AK{n:Nat}(h:n≤9223372036854775807):IntKind.wrap .i64 (n:Int)=n:=bL (by omega)
theorem yu{n:Nat}(h:n<9223372036854775807):IntKind.wrap .i64 ((n:Int)+1)=((n+1:Nat):Int):=by rw[bL (by omega)];rfl
def eX(q:α→Bool)(l:List α):Int:=match l.findIdx? q with|some i=>(i:Int)|none=> -1
theorem KP(q:α→Bool)(l:List α):eX q l<l.length:=by
 unfold eX;cases h:l.findIdx? q with
 |none=>simp;omega
 |some i=>have:=(List.findIdx?_eq_some_iff_getElem.1 h).1;simp;omega
theorem KQ(q:α→Bool)(l:List α): -1≤eX q l:=by
 unfold eX
 split<;>omega
theorem Bo(q:α→Bool)(l:List α):decide (0≤eX q l)=l.any q:=by
 unfold eX;cases h:l.findIdx? q with
 |none=>
  have:=List.findIdx?_eq_none_iff.1 h
  have:l.any q=false:=by rw[List.any_eq_false];intro x hx;simp[this x hx]
  rw[this];rfl
 |some i=>
  obtain⟨h1,h2,_⟩:=List.findIdx?_eq_some_iff_getElem.1 h;have:l.any q=true:=List.any_eq_true.2 ⟨l[i],List.getElem_mem h1,h2⟩
  rw[this];simp
def CG(p:α→Option Bool)(l:List α)(self:Int→Option Int)(z:Int):Option Int:=
 bif ak.bf z (aw l)then(gI l z).bind fun x=>(p x).bind fun y=>bif y then some z else self (ak.wrap .i64 (ak.add z 1))else some (-1)
theorem cP{p:α→Option Bool}(q:α→Bool){l:List α}(hp: ∀x∈l,p x=some (q x)){n:Nat}(hn:l.length<n)(hl:l.length≤9223372036854775806):iter (CG p l) n 0=some (eX q l):=by
 have:=fM (R:=Int) (body:=CG p l) (fun r i=>match r.findIdx? q with|some j=>some ((i+j:Nat):Int)|none=>some (-1)) l hl ?_ ?_ n hn
 ·refine this.trans ?_;unfold eX;cases l.findIdx? q<;>simp
 ·intro self i x r hd hi e1 e2 e3 ih;have hx:p x=some (q x):=hp x (List.mem_of_mem_drop (i:=i) (by rw[hd];simp))
  unfold CG;rw[e2,az,e1,au,hx,au,e3,List.findIdx?_cons];cases hq:q x with
  |true=>simp
  |false=>
   rw[aC,ih];cases r.findIdx? q<;>simp;omega
 ·intro self e;unfold CG;rw[e];rfl
theorem cQ{o:Option Int}{q:α→Bool}{l:List α}(h:o=some (eX q l)):(o.bind fun y=>some (ak.rL 0 y))=some (l.any q):=by
 rw[h,au,zt,Bo]
theorem xW{g:Bool}{b:Bool}{x:Option α}{d y:α}(h:g=b→x=some y):dp g b x d=some (if g=b then y else d):=by
 unfold dp;by_cases hg:g=b
 ·subst hg;simp[h rfl]
 ·have:(g==b)=false:=by simpa using hg
  rw[this,if_neg hg];rfl
theorem Hr{g:Bool}{x:Option α}{d y:α}(h:g=true→x=some y):dp g true x d=some (bif g then y else d):=by
 unfold dp;cases g with
 |true=>simpa using h rfl
 |false=>rfl
theorem HO{g:Bool}{x:Option α}{d y:α}(h:g=false→x=some y):dp g false x d=some (bif g then d else y):=by
 unfold dp;cases g with
 |false=>simpa using h rfl
 |true=>rfl
def C8{β:Type}(q:α→β→Bool):List α→List β→Bool
 |x::r,y::s=>q x y&&C8 q r s
 |[],[]=>true
 |_,_=>false
theorem eM{l:List α}{i:Nat}{x:α}{r:List α}(h:l.drop i=x::r):gI l (i:Int)=some x:=by
 have:=List.getElem?_drop (xs:=l) (i:=i) (j:=0)
 rw[h]at this;unfold gI;rw[if_pos (by omega)];simpa using this.symm
theorem pY[DecidableEq α]: ∀{l m:List α},C8 (fun x y=>decide (x=y)) l m=decide (l=m)
 |[],[]=>rfl
 |[],_::_=>rfl
 |_::_,[]=>rfl
 |x::r,y::s=>by simp only[C8,pY (l:=r) (m:=s),List.cons.injEq];by_cases h:x=y<;>by_cases h2:r=s<;>simp[h,h2]
theorem aN{b:Nat}{l:List α}{x:α}(hb:b≤64)(hl:l.length≤1099511627775):aP b l x=some (l++[x]):=by
 unfold aP;rw[if_pos];refine⟨?_,by omega⟩
 calc (l.length+1)*b≤(l.length+1)*64:=Nat.mul_le_mul_left _ hb
  _≤70368744177664:=by omega
theorem ads{b:Nat}{l m:List α}(hb:b≤64)(hl:l.length+m.length≤1099511627775):Lh b l m=some (l++m):=by
 unfold Lh;rw[if_pos];refine⟨?_,by omega⟩
 calc (l.length+m.length)*b≤(l.length+m.length)*64:=Nat.mul_le_mul_left _ hb
  _≤70368744177664:=by omega
theorem so{b:Nat}{k:Nat}{x:α}(hb:b≤64)(hl:k≤1099511627775):vZ b (k:Int) x=some (List.replicate k x):=by
 unfold vZ;rw[if_pos]
 ·simp
 ·refine⟨by omega,by omega,?_⟩;have:(k:Int)*b≤(k:Int)*64:=Int.mul_le_mul_of_nonneg_left (by omega) (by omega)
  omega
theorem mF{l:List α}{k:Nat}{x:α}(h:k<l.length):gD l k x=some (l.set k x):=if_pos h
theorem zA{m:Nat}{z:Int}(h:0≤z)(h2:z<m):gN m z=some z.toNat:=if_pos ⟨h,h2⟩
theorem iI{m i:Nat}(h:i<m):gN m (i:Int)=some i:=by rw[zA (by omega) (by omega)];simp
theorem RE{l:List α}{z:Int}(h:0≤z)(h2:z.toNat<l.length):gI l z=some l[z.toNat]:=by unfold gI;rw[if_pos h];simp[h2]
theorem Nt{l:List α}{k:Nat}(h:k<l.length):gK l k=some l[k]:=by unfold gK;simp[h]
theorem um{n:Nat}{l:List α}(h:l.length=n):fe n l=some ():=if_pos h
theorem eW{n:Nat}{l:List α}(h:n=l.length):ei n l=some ():=if_pos h
theorem I2{l:List α}{k:Nat}(h:k≤l.length):GZ l 0 (k:Int)=some (l.take k):=by
 unfold GZ;rw[if_pos ⟨by omega,by omega,by omega⟩];simp
theorem TP{l:List α}{k:Nat}(h:k≤l.length):GZ l (k:Int) (aw l)=some (l.drop k):=by
 unfold GZ aw;rw[if_pos ⟨by omega,by omega,by omega⟩];simp
end
end Ab
namespace Ab
open Go
set_option maxRecDepth 10000
def opS(o:aD):Prop:=o.name.size≤40∧o.args.length≤9
def brS(x:ag):Prop:=x.head.size≤40∧x.ops.length≤70∧ ∀o∈x.ops,opS o
def blS(b:aj):Prop:=b.name.size≤40∧b.ae.length≤9∧ ∀x∈b.ae,brS x
def coS(c:ai):Prop:=c.af.length≤16∧ ∀b∈c.af,blS b
def Qs(o:aD):Bool:=decide (40<o.name.size)||decide (9<o.args.length)
def Qr(x:ag):Bool:=(decide (40<x.head.size)||decide (70<x.ops.length))||x.ops.any Qs
def Qt(b:aj):Bool:=(decide (40<b.name.size)||decide (9<b.ae.length))||b.ae.any Qr
def TV(c:ai):Bool:=decide (16<c.af.length)||c.af.any Qt
theorem eE(a b:Bool):(bif a then true else b)=(a||b):=by cases a<;>rfl
theorem mO(a b:Bool):(bif a then b else false)=(a&&b):=by cases a<;>rfl
theorem v3(a b:Nat):decide ((a:Int)<(b:Int))=decide (a<b):=by simp
theorem av7(n:Nat)(o:aD):jz ak .ak n o=some (Qs o):=by
 unfold jz Qs;simp only[au,fW,bg,aw,nH,eE];rw[show(40:Int)=((40:Nat):Int)from rfl,show(9:Int)=((9:Nat):Int)from rfl,v3,v3]
theorem apq{n:Nat}{l:List aD}(h:l.length<n)(h':l.length≤100):ga ak .ak n l=some (l.any Qs):=
 cQ (cP (p:=jz ak .ak n) Qs (fun x _=>av7 n x) h (by omega))
theorem av6{n:Nat}(hn:100<n)(x:ag):mu ak .ak n x=some (Qr x):=by
 unfold mu Qr;simp only[au,fW,bg,aw,nH,eE];rw[show(40:Int)=((40:Nat):Int)from rfl,show(70:Int)=((70:Nat):Int)from rfl,v3,v3];rw[xW (y:=x.ops.any Qs) fun hg=>apq (by simp at hg;omega) (by simp at hg;omega)];cases hg:(decide (40<x.head.size)||decide (70<x.ops.length))<;>simp
theorem apo{n:Nat}(hn:100<n){l:List ag}(h':l.length≤9):eC ak .ak n l=some (l.any Qr):=
 cQ (cP (p:=mu ak .ak n) Qr (fun x _=>av6 hn x) (by omega) (by omega))
theorem av5{n:Nat}(hn:100<n)(x:aj):qh ak .ak n x=some (Qt x):=by
 unfold qh Qt;simp only[au,fW,bg,aw,nH,eE];rw[show(40:Int)=((40:Nat):Int)from rfl,show(9:Int)=((9:Nat):Int)from rfl,v3,v3];rw[xW (y:=x.ae.any Qr) fun hg=>apo hn (by simp at hg;omega)];cases hg:(decide (40<x.name.size)||decide (9<x.ae.length))<;>simp
theorem apn{n:Nat}(hn:100<n){l:List aj}(h':l.length≤16):eQ ak .ak n l=some (l.any Qt):=
 cQ (cP (p:=qh ak .ak n) Qt (fun x _=>av5 hn x) (by omega) (by omega))
theorem YO{n:Nat}(hn:100<n)(c:ai):uS ak .ak n c=some (TV c):=by
 unfold uS TV;simp only[au,fW,bg,aw,nH,eE];rw[show(16:Int)=((16:Nat):Int)from rfl,v3];rw[xW (y:=c.af.any Qt) fun hg=>apn hn (by simp at hg;omega)];cases hg:(decide (16<c.af.length))<;>simp
theorem I4{c:ai}(h:TV c=false):coS c:=by
 simp only[TV,Qt,Qr,Qs,Bool.or_eq_false_iff,decide_eq_false_iff_not,Nat.not_lt,List.any_eq_false,Bool.not_eq_true,Bool.or_eq_true,not_or,decide_eq_true_eq,List.any_eq_true,not_exists,not_and]at h;exact⟨h.1,fun b hb=>⟨(h.2 b hb).1.1,(h.2 b hb).1.2,fun x hx=>⟨((h.2 b hb).2 x hx).1.1,((h.2 b hb).2 x hx).1.2,fun o ho=>((h.2 b hb).2 x hx).2 o ho⟩⟩⟩
theorem akV{n:Nat}{l:List Int}(h:l.length≤1000):tE ak .ak n l=some l:=by
 unfold tE;rw[ads (by omega) (by simp;omega)];rfl
theorem asL{n:Nat}(hn:100<n){x:ag}(hx:brS x)(k:List aD×Int→Option ai):iter (nu ak .ak n (aw x.ops) x k) n ([],0)=k (x.ops,(x.ops.length:Int)):=by
 have:=aT (body:=nu ak .ak n (aw x.ops) x k) (mk:=fun a i=>(a,(i:Int))) (fun a r i=>k (a++r,(x.ops.length:Int))) (fun a i=>a.length=i) x.ops (by have:=hx.2.1;omega) ?_ ?_ n (by have:=hx.2.1;omega) [] rfl
 ·simpa using this
 ·intro self a i o r ha hd hi e1 e2 e3 ih;have ho:=hx.2.2 o (List.mem_of_mem_drop (i:=i) (by rw[hd];simp))
  have hl:=hx.2.1
  simp only[nu,e2,az,e1,au,akV (show o.args.length≤1000 by have:=ho.2;omega)];rw[aN (by omega) (by omega),au,e3,ih _ (by simp[ha])];simp
 ·intro self a ha e;simp only[nu,e,aC];simp
theorem asM{n:Nat}(hn:100<n){b:aj}(hb:blS b)(k:List ag×Int→Option ai):iter (nv ak .ak n (aw b.ae) b k) n ([],0)=k (b.ae,(b.ae.length:Int)):=by
 have:=aT (body:=nv ak .ak n (aw b.ae) b k) (mk:=fun a i=>(a,(i:Int))) (fun a r i=>k (a++r,(b.ae.length:Int))) (fun a i=>a.length=i) b.ae (by have:=hb.2.1;omega) ?_ ?_ n (by have:=hb.2.1;omega) [] rfl
 ·simpa using this
 ·intro self a i o r ha hd hi e1 e2 e3 ih;have ho:=hb.2.2 o (List.mem_of_mem_drop (i:=i) (by rw[hd];simp))
  have hl:=hb.2.1
  simp only[nv,e2,az,e1,au,asL hn ho];rw[aN (by omega) (by omega),au,e3,ih _ (by simp[ha])];simp
 ·intro self a ha e;simp only[nv,e,aC];simp
theorem YJ{n:Nat}(hn:100<n){c:ai}(hc:coS c):rI ak .ak n c=some c:=by
 unfold rI;rw[au];have:=aT (body:=qg ak .ak n c (aw c.af) (fun(xP,D3)=>some (⟨xP⟩:ai))) (mk:=fun a i=>(a,(i:Int))) (fun a r i=>some ⟨a++r⟩) (fun a i=>a.length=i) c.af (by have:=hc.1;omega) ?_ ?_ n (by have:=hc.1;omega) [] rfl
 ·simpa using this
 ·intro self a i o r ha hd hi e1 e2 e3 ih;have ho:=hc.2 o (List.mem_of_mem_drop (i:=i) (by rw[hd];simp))
  have hl:=hc.1
  simp only[qg,e2,az,e1,au,asM hn ho];rw[aN (by omega) (by omega),au,e3,ih _ (by simp[ha])];simp
 ·intro self a ha e;simp only[qg,e,aC];simp
def rD(c:UInt8):Bool:=decide (97≤c.toNat)&&decide (c.toNat≤122)
def cn(s:ByteArray):List UInt8:=s.data.toList
def e9(s:ByteArray):Bool:=(decide (1≤s.size)&&decide (s.size≤8))&&(cn s).all rD
theorem G9(s:ByteArray):(cn s).length=s.size:=rfl
theorem Qd(s:ByteArray)(i:Nat):gB s (i:Int)=(cn s)[i]?.map fun c=>(c.toNat:Int):=by
 unfold gB;rw[if_pos (by omega)];have:s[(i:Int).toNat]? =(cn s)[i]? :=by
  simp only[cn,Int.toNat_natCast];by_cases h:i<s.size
  ·rw[getElem?_pos s i h,eH (by simpa[←ByteArray.size_data]using h)];rfl
  ·rw[getElem?_neg s i h,List.getElem?_eq_none (by simpa[←ByteArray.size_data]using h)]
 rw[this]
theorem XO{s:ByteArray}{i:Nat}{c:UInt8}(h:gI (cn s) (i:Int)=some c):gB s (i:Int)=some (c.toNat:Int):=by
 rw[Qd,←bK,h];rfl
theorem xu{n:Nat}(hn:100<n)(s:ByteArray):ni ak .ak n s=some (e9 s):=by
 unfold ni Cm e9;simp only[au,fW,bg,nH,eE];by_cases hs:1≤s.size∧s.size≤8
 ·have h1:(decide ((s.size:Int)<1)||decide ((8:Int)<s.size))=false:=by simp;omega
  rw[h1,aC,bP hs.1,bP hs.2,Bool.true_and,Bool.true_and];refine fM (R:=Bool) (fun r i=>some (r.all rD)) (cn s) (by rw[G9];omega) ?_ ?_ n (by rw[G9];omega)
  ·intro self i c r hd hi e1 e2 e3 ih;have hz:nH s=aw (cn s):=rfl
   simp only[pU,hz,au,e2,az,XO e1,e3,ih,xW (fun _=>rfl)];simp only[fW,bg,eE,List.all_cons];by_cases h1:(c.toNat:Int)<97
   ·have:rD c=false:=by unfold rD;simp;omega
    simp[h1,this]
   ·by_cases h2:(122:Int)<c.toNat
    ·have:rD c=false:=by unfold rD;simp;omega
     have h3:(97:Int)≤c.toNat:=by omega
     simp[h1,h2,h3,this]
    ·have:rD c=true:=by unfold rD;simp;omega
     have h3:(97:Int)≤c.toNat:=by omega
     simp[h1,h2,h3,this]
  ·intro self e;have hz:nH s=aw (cn s):=rfl
   simp only[pU,hz,au,e,aC];rfl
 ·have h1:(decide ((s.size:Int)<1)||decide ((8:Int)<s.size))=true:=by simp;omega
  have h2:(decide (1≤s.size)&&decide (s.size≤8))=false:=by simp;omega
  rw[h1,az,h2,Bool.false_and]
def yH:ByteArray:=⟨#[97,98,99,100,101,102,103,104,105,106,107,108,109,110,111,112,113,114,115,116,117,118,119,120,121,122]⟩
def yV:List Bool:=(List.range 256).map fun i=>decide (97≤i)&&decide (i≤122)
theorem aay(m:Nat):j0 ak .ak (m+30) yH=some (yV,true):=by kernel_rfl
theorem U1{c:UInt8}:gK yV c.toNat=some (rD c):=by
 have h:=c.toNat_lt
 unfold gK yV rD;simp[h]
theorem alV(k:ByteArray→Option ByteArray): ∀(m:Nat) (z:ByteArray) (n:Nat),z.size=m→m<n→m≤1000→ ∃t,iter (c9 ak .ak 0 (yV,true) k) n z=k t∧t.size≤m∧((cn z).all rD=true→t.size=0)∧((cn z).all rD=false→(cn t).all rD=false):=by
 intro m
 induction m with
 |zero=>
  intro z n hz hn hm;obtain⟨n,rfl⟩: ∃j,n=j+1:=⟨n - 1,by omega⟩;refine⟨z,?_,by omega,fun _=>hz,fun h=>h⟩;show c9 ak .ak 0 (yV,true) k _ z=k z;simp[c9,nH,hz,fW]
 |succ m ih=>
  intro z n hz hn hm;obtain⟨n,rfl⟩: ∃j,n=j+1:=⟨n - 1,by omega⟩;have hlen:(cn z).length=m+1:=hz
  have Xz:(cn z)[m]? =some ((cn z)[m]'(by omega)):=eH _
  generalize hc:(cn z)[m]'(by omega)=c at Xz;have Xl:ak.wrap .i64 (ak.sub ((m+1:Nat):Int) 1)=(m:Int):=by show IntKind.wrap .i64 (((m+1:Nat):Int) - 1)=_;rw[show(((m+1:Nat):Int) - 1)=(m:Int)by omega];exact AK (by omega)
  have hg:gB z (m:Int)=some (c.toNat:Int):=by rw[Qd,Xz];rfl
  have bc:ak.bf 0 ((m+1:Nat):Int)=true:=by rw[fW];exact bP (by omega)
  show∃t,c9 ak .ak 0 (yV,true) k (iter (c9 ak .ak 0 (yV,true) k) n) z=k t∧_;simp only[c9,nH,hz,au,bc,az,Xl,hg,iI (show c.toNat<256 from c.toNat_lt),U1,bQ];have KR:cn z=(cn z).take m++[c]:=by
   rw[←hc,List.take_append_getElem,List.take_of_length_le (by omega)]
  cases hq:rD c with
  |false=>
   refine⟨z,by simp,by omega,fun h=>?_,fun h=>h⟩;rw[KR,List.all_append]at h;simp[hq]at h
  |true=>
   have ajh:G3 z 0 (m:Int)=some (z.extract 0 m):=by
    unfold G3;rw[if_pos ⟨by omega,by omega,by omega⟩];simp
   obtain⟨t,h1,h2,h3,h4⟩:=ih (z.extract 0 m) n (by rw[ByteArray.size_extract];omega) (by omega) (by omega);have hb:cn (z.extract 0 m)=(cn z).take m:=by
    unfold cn;rw[ByteArray.data_extract,Array.toList_extract,List.extract_eq_take_drop];simp
   have lg:(cn z).all rD=(cn (z.extract 0 m)).all rD:=by
    conv=>lhs;rw[KR]
    rw[List.all_append,hb];simp[hq]
   refine⟨t,?_,by omega,fun h=>h3 (by rw[←lg];exact h),fun h=>h4 (by rw[←lg];exact h)⟩;simp only[Bool.not_true,aC,ajh,au];exact h1
theorem alU(k:ByteArray→Option ByteArray): ∀(m:Nat) (z:ByteArray) (n:Nat),z.size=m→m<n→m≤1000→ ∃t,iter (cr ak .ak 0 (yV,true) k) n z=k t∧t.size≤m∧((cn z).all rD=true→t.size=0)∧((cn z).all rD=false→(cn t).all rD=false):=by
 intro m
 induction m with
 |zero=>
  intro z n hz hn hm;obtain⟨n,rfl⟩: ∃j,n=j+1:=⟨n - 1,by omega⟩;refine⟨z,?_,by omega,fun _=>hz,fun h=>h⟩;show cr ak .ak 0 (yV,true) k _ z=k z;simp[cr,nH,hz,fW]
 |succ m ih=>
  intro z n hz hn hm;obtain⟨n,rfl⟩: ∃j,n=j+1:=⟨n - 1,by omega⟩;have hlen:(cn z).length=m+1:=hz
  obtain⟨c,r,hcr⟩: ∃c r,cn z=c::r:=by
   cases h:cn z with
   |nil=>rw[h]at hlen;simp at hlen
   |cons c r=>exact⟨c,r,rfl⟩
  have hg:gB z 0=some (c.toNat:Int):=by have:=Qd z 0;rw[hcr]at this;exact this
  have bc:ak.bf 0 ((m+1:Nat):Int)=true:=by rw[fW];exact bP (by omega)
  show∃t,cr ak .ak 0 (yV,true) k (iter (cr ak .ak 0 (yV,true) k) n) z=k t∧_;simp only[cr,nH,hz,au,bc,az,hg,iI (show c.toNat<256 from c.toNat_lt),U1,bQ];cases hq:rD c with
  |false=>
   refine⟨z,by simp,by omega,fun h=>?_,fun h=>h⟩;rw[hcr]at h;simp[hq]at h
  |true=>
   have ajh:G3 z 1 ((m+1:Nat):Int)=some (z.extract 1 (m+1)):=by
    unfold G3;rw[if_pos ⟨by omega,by omega,by omega⟩];rfl
   obtain⟨t,h1,h2,h3,h4⟩:=ih (z.extract 1 (m+1)) n (by rw[ByteArray.size_extract];omega) (by omega) (by omega);have hb:cn (z.extract 1 (m+1))=r:=by
    have:cn (z.extract 1 (m+1))=(cn z).extract 1 (m+1):=by
     unfold cn;rw[ByteArray.data_extract,Array.toList_extract]
    rw[this,hcr,List.extract_eq_take_drop];have hr:r.length=m:=by rw[hcr]at hlen;simpa using hlen
    simp[hr];rw[←hr];simp
   have lg:(cn z).all rD=(cn (z.extract 1 (m+1))).all rD:=by
    rw[hcr,hb];simp[hq]
   refine⟨t,?_,by omega,fun h=>h3 (by rw[←lg];exact h),fun h=>h4 (by rw[←lg];exact h)⟩;simp only[Bool.not_true,aC,ajh,au];exact h1
theorem Sp{s:ByteArray}:s.size=0↔s=⟨#[]⟩:=by
 constructor
 ·intro h;obtain⟨⟨l⟩⟩:=s;have:l.length=0:=h
  cases l with
  |nil=>rfl
  |cons a r=>simp at this
 ·rintro rfl;rfl
theorem adt{n:Nat}(hn:100<n){s:ByteArray}(hs:s.size≤50): ∃t,kT ak .ak n s yH=some t∧((cn s).all rD=true↔t=⟨#[]⟩):=by
 obtain⟨m,rfl⟩: ∃m,n=m+30:=⟨n - 30,by omega⟩;unfold kT;have hl:ak.seq yH ⟨#[]⟩=false:=by kernel_rfl
 have hz:nH yH=26:=by kernel_rfl
 rw[hl,hz];simp only[bg,jx,au,bU];by_cases h0:s=⟨#[]⟩
 ·subst h0;refine⟨⟨#[]⟩,rfl,?_⟩;simp[cn]
 ·rw[bI h0,aC,aC];have hd:decide ((26:Int)=1)=false:=by decide
  simp only[hd,aC];obtain⟨t1,a1,a2,a3,a4⟩:=alV (fun eU=>iter (cr ak .ak 0 (yV,true) (fun Di=>some Di)) (m+30) eU) s.size s (m+30) rfl (by omega) (by omega);obtain⟨t2,b1,b2,b3,b4⟩:=alU (fun Di=>some Di) t1.size t1 (m+30) rfl (by omega) (by omega);refine⟨t2,?_,?_⟩
  ·simp only[dp,show((false==true)=false)from rfl,aC,au,aay,fe,List.length_replicate,if_true,az];have:iter (c9 ak Md.ak (m+30) (yV,true) fun eU=>iter (cr ak Md.ak (m+30) (yV,true) fun Di=>some Di) (m+30) eU) (m+30) s=iter (c9 ak .ak 0 (yV,true) fun eU=>iter (cr ak .ak 0 (yV,true) (fun Di=>some Di)) (m+30) eU) (m+30) s:=rfl
   rw[this,a1];exact b1
  ·cases lg:(cn s).all rD with
   |true=>
    have e1:=a3 lg
    have e2:t2.size=0:=by omega
    exact⟨fun _=>Sp.1 e2,fun _=>rfl⟩
   |false=>
    have e2:=b4 (a4 lg)
    refine⟨(fun h=>by cases h),fun h=>?_⟩;subst h;simp[cn]at e2
theorem wH{n:Nat}(hn:100<n)(s:ByteArray):pC ak .ak n s=some (e9 s):=by
 unfold pC e9;simp only[au,fW,zt,bg,nH,mO,jx];have hd:(decide ((0:Int)<s.size)&&decide ((s.size:Int)≤8))=(decide (1≤s.size)&&decide (s.size≤8)):=by
  rw[Bool.eq_iff_iff];simp;omega
 rw[hd];cases hg:(decide (1≤s.size)&&decide (s.size≤8))with
 |false=>
  rw[xW (y:=default) (fun h=>by cases h)];simp
 |true=>
  have hs:s.size≤50:=by simp at hg;omega
  obtain⟨t,h1,h2⟩:=adt hn hs;have:dp true true (kT ak .ak n s yH) default=some t:=h1
  show(dp true true (kT ak .ak n s yH) default).bind _=_;rw[this,au];congr 1;rw[Bool.eq_iff_iff];simpa using h2.symm
end Ab
