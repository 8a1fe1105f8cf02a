/- PassesAll holds of all pairs of cores (no condition): a part of the proof: an abstract interpreter of the code that is proved sound, models of the functions, and laws of these models. -/
import Derived.Test.YtcdinjhcnhepeaaGreatDoorA02
import Derived.LaidMore
import Derived.SevenTiedAt
set_option linter.unusedVariables false
set_option linter.unusedSimpArgs false
set_option linter.unusedSectionVars false
namespace Ab
open Go Go.Proofs Go.Proofs.YtcdinjhcnhepeaaGreatDoor
open Go.ChangeShapes Go.WideShapes Go.ChangeAt Go.RowKit
set_option maxRecDepth 100000
def NW(f:FuncId):Prop:= ∀(W:World) (v w:Value) (c d:ai),Cz (sA W) (.agg (bd .ak 0 c)) v→Cz (sA W) (.agg (bd .ak 0 d)) w→Calls Tryz.prog f #[v,w] W fun e W'=>e= .returned (.bool true)∧cp W W'∧jQ W W'
theorem lawC2_of{f:FuncId}(h: ∀c d:ai,lR PP f [.agg (bd .ak 0 c),.agg (bd .ak 0 d)] (fun _=>none) 0 (.v (.bool true)) (fun _=>none) 0):NW f:=fun W v w c d hv hw=>by
 refine(h c d rfl (sA W) W [v,w] (TF W) rfl (fun q a y ha hy=>by
  match q,ha,hy with
  |0,ha,hy=>cases ha;cases hy;exact hv
  |1,ha,hy=>cases ha;cases hy;exact hw)).mono ?_
 rintro e W' ⟨x,E',he,hG,hE,hS,hc,_,hA⟩
 have:=bX hc
 subst this;exact⟨he,hA,hS⟩
theorem RQ{H:Type}{enc:TypeId×Value→H}{W:World}{base:Nat}{v:Value}{d:DataW H}{p:List MemPlace}(h:DataW.Trod enc Tryz.prog W 0 (fun _=>true) true 24 v d p)(o8:Value.okWide Tryz.prog W .any base 24 v): ∃c,Cz (sA W) (.agg (bd .ak 0 c)) v:=by
 obtain⟨n,hn⟩:=h;obtain⟨c,x,Lt,TD⟩:=S3 hn;unfold Value.okWide at o8;rw[Tryz.underlying24]at o8;obtain⟨cs,rfl,_,_⟩:=o8;have Lt:cs.toList=[x]:=by simpa[Value.cells]using Lt
 have:cs=[x].toArray:=by rw[←Lt]
 refine⟨c,?_⟩;rw[this];exact .agg _ [x] rfl fun q a y ha hy=>by
  match q,ha,hy with
  |0,ha,hy=>cases ha;cases hy;exact TD
theorem arj{f:FuncId}{fn:Func}{s:ChangeSpec}(hp:fn.params= #[24,24])(hr:fn.resultTypes= #[4])(hv:s.vars=[])(hs: ∀(H:Type) (d d':DataW H),s.fn H [d,d']={results:=[.lit (.bool true)],args:=[d,d']})(P4:NW f)
  (H:Type)(enc:TypeId×Value→H)(W:World)(args:Array Value)(ds gs:List (DataW H))(before:List MemPlace)
  (base:Nat)(o8: ∀(j:Nat) t v,fn.params[j]? =some t→args[j]? =some v→Value.okWide Tryz.prog W .any base t v)(hW:DataW.Whole enc Tryz.prog fn.params.toList s.vars false W args.toList ds gs before):
  Calls Tryz.prog f args W fun e W'=> ∃v,e= .returned v∧s.post enc Tryz.prog fn false true false false W args v W':=by
 have hW':=hW
 obtain⟨p,q,hA0,hV,rfl,hfz,hnd⟩:=hW;have hA:DataW.TrodAll enc Tryz.prog W 0 (fun _=>true) true fn.params.toList args.toList ds p:=hA0
 rw[hp]at hA;rw[hv]at hV;obtain⟨v0,v1,d0,d1,p0,p1,rfl,rfl,rfl,h0,h1⟩:=trodAll_two hA;obtain⟨rfl,rfl⟩:=trodVars_none hV;obtain⟨c,hc⟩:=RQ h0 (o8 0 24 v0 (by rw[hp];rfl) rfl);obtain⟨d,hd⟩:=RQ h1 (o8 1 24 v1 (by rw[hp];rfl) rfl);refine(P4 W v0 v1 c d hc hd).mono fun e W' ⟨he,hA,hS⟩=>⟨_,he,?_⟩
 have bc: ∀x∈p0++p1,x.block<W.heap.size:=fun x hx=>hW'.lt x (by simpa using hx)
 have Br:(s.fn H ([d0,d1]++[])).results=[.lit (.bool true)]:=by rw[List.append_nil,hs]
 have KS:(s.fn H ([d0,d1]++[])).args=[d0,d1]:=by rw[List.append_nil,hs]
 have hs3:(s.fn H ([d0,d1]++[])).vars=[]:=by rw[List.append_nil,hs]
 have stay: ∀{v:Value} {d:DataW H} {p:List MemPlace},DataW.Trod enc Tryz.prog W 0 (fun _=>true) true 24 v d p→(∀x∈p,x.block<W.heap.size)→DataW.Trod enc Tryz.prog W' 0 (fun b=>decide (b<W.heap.size)) true 24 v d p:=fun h hl=>
  WideElems.Trod_stays laidOut al2 al1 h (fun x hx=>by
   have hb:=hA x.block (hl x hx)
   cases x with
   |cell b off=>show W'.cell? _=W.cell? _;unfold World.cell?;rw[show W'.heap[b]? =W.heap[b]? from hb]
   |map b=>exact hb) fun x hx=>by simpa using hl x hx
 refine⟨[d0,d1],[],_,[],p0++p1,[],hW',?_,?_,?_,?_,fun h=>(by cases h)⟩
 ·rw[hr,Br];exact trodAll_mk1 (shut_bool Tryz.underlying4 _)
 ·rw[hp,KS];exact trodAll_mk2 (stay h0 fun x hx=>bc x (by simp[hx])) (stay h1 fun x hx=>bc x (by simp[hx]))
 ·rw[hv,hs3];rfl
 ·exact World.keptBut_mono (fun _ h=>h.elim) (World.keptBut_none_iff.2 ⟨hS.1,hS.2.2,hA⟩)
noncomputable def Ah(os:Os):World:=
 {World.doorLaid Tryz.prog 60 os with heap:=(World.doorLaid Tryz.prog 60 os).heap.modify 0 fun
   | .cells _ t frozen=> .cells (Go.Pinned.utf8FirstZ.map fun(n:Nat)=>Value.int .u8 (n:Int)).toArray t frozen
   |o=>o}
theorem Ta(os:Os):laidMet Tryz.prog Rows.passesAllRow.laid ((Ah os).forCall (fun _ _=>0) ⟨#[],#[Value.agg #[.slice none 0 0],Value.agg #[.slice none 0 0]],[]⟩).memory:=
 laidMet_of_run' 8 (by kernel_rfl) (by kernel_rfl)
theorem agq(os:Os){H:Type}(enc:TypeId×Value→H): ∃places,DataW.whole enc Tryz.prog ((Ah os).forCall (fun _ _=>0) ⟨#[],#[Value.agg #[.slice none 0 0],Value.agg #[.slice none 0 0]],[]⟩).memory Tryz.f5.params.toList Rows.passesAllSpec.vars false #[Value.agg #[.slice none 0 0],Value.agg #[.slice none 0 0]].toList 8=some ([.agg [.nil],.agg [.nil]],[],places):=
 ⟨[],by kernel_rfl⟩
theorem aba(P4:NW 5)(os:Os)(started:os.Started)(H:Type)(enc:TypeId×Value→H)(F:Stop.Interp):
  ReturnsInHanded {} Tryz.checked os 5 .any ((OpenSpec.ofChange Rows.passesAllSpec).preRow enc Tryz.prog Tryz.f5 Rows.passesAllRow.domain false Rows.passesAllRow.laid) (((OpenSpec.ofChange Rows.passesAllSpec).at F).post enc Tryz.prog Tryz.f5 false true false false):=by
 obtain⟨places,hx⟩:=agq os enc;refine returnsInHanded_of_row (C:=Tryz.checked) (s:=OpenSpec.ofChange Rows.passesAllSpec) asN started (by kernel_rfl) Tryz.func5
  (witness_row_at (enc:=enc) (C:=Tryz.checked) false (Ah os) #[Value.agg #[.slice none 0 0],Value.agg #[.slice none 0 0]] rfl (by kernel_rfl) (by kernel_rfl) (by kernel_rfl)
   (OpenSpec.preRow_of_cond 8 hx (by kernel_rfl) (fun k hk=>by cases hk) (by kernel_rfl) (Ta os))) ?_
 intro W base args ds gs before o8 hW _ _ _ hL _ _;exact arj Tryz.params5 (by kernel_rfl) rfl (fun _ _ _=>rfl) P4 H enc W args ds gs before base o8 hW
theorem al0(P4:NW 5):Rows.PassesAllSaid:=
 OpenClaim.holds_of_cond 5 Tryz.f5 rfl rfl rfl rfl rfl rfl rfl ⟨rfl,rfl,rfl,rfl,rfl⟩ rfl rfl rfl rfl rfl (by kernel_rfl) Tryz.func5 (by kernel_rfl)
  (of_decide_eq_true (by kernel_rfl)) (by unfold Func.isWrapper;first|(rw[if_pos (by decide+kernel)];kernel_rfl)|(rw[if_neg (by decide+kernel)];exact⟨rfl,rfl⟩))
  (fun os started H enc _ F=>by rw[OpenClaim.pre_eq_preRow];exact aba P4 os started H enc F)
theorem ahX(f:FuncId)(fn:Func)(hf:Tryz.pinned.checked.prog.funcNamed "roundelay/roundelaylaw19.PassesAll" =some f)(hfn:Tryz.pinned.checked.prog.funcs[f]? =some fn):
  false=Tryz.pinned.checked.prog.looks []∧ ∀(j:Nat) t,fn.params[j]? =some t→Tryz.pinned.checked.prog.wantsStandIn t=false:=by
 obtain rfl:f=5:=o5 ((show Tryz.prog.funcNamed "roundelay/roundelaylaw19.PassesAll" =some 5 by kernel_rfl).symm.trans hf) |>.symm;obtain rfl:fn=Tryz.f5:=(o5 (Tryz.func5.symm.trans hfn)).symm;refine⟨by kernel_rfl,fun j t ht=>?_⟩;rw[Tryz.params5]at ht;obtain rfl:t=24:=by simpa using Array.mem_of_getElem? ht
 exact(show Tryz.prog.wantsStandIn 24=false by kernel_rfl)
theorem card5(P4:NW 5):Rows.PassesAllCardSaid:=
 Claim7.holds_tied_plain_at .later [] _ _ _ _ (al0 P4) (fun _ h=>by cases h) (by kernel_rfl) (fun _ h=>by cases h) passesAll_row_tie rfl ⟨rfl,rfl⟩ (by kernel_rfl) rfl ahX (by kernel_rfl)
end Ab
