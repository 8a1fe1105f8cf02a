/- PassesBlocks holds of all cores and names (no condition): a part of the proof: an abstract interpreter of the code that is proved sound, models of the functions, and laws of these models. -/
import Derived.Test.YtcdinjhcnhepeaaGreatDoorB02
import Derived.LaidMore
import Derived.SevenTiedAt
set_option linter.unusedVariables false
set_option linter.unusedSimpArgs false
set_option linter.unusedSectionVars false
namespace Ab
open Go Go.Proofs Go.Proofs.YtcdinjhcnhepeaaGreatDoor
open Go.ChangeShapes Go.WideShapes Go.ChangeAt Go.RowKit
set_option maxRecDepth 100000
theorem aro:Tryz.prog.readableRec 9=true:=by kernel_rfl
theorem arl:(9:TypeId)<Tryz.prog.types.size:=of_decide_eq_true (by kernel_rfl)
def M3(f:FuncId):Prop:= ∀(W:World) (v:Value) (b:ByteArray) (c:af),Cz (sJ W) (.agg (aZ .al 0 c)) v→Calls Tryz.prog f #[v,.string b] W fun e W'=>e= .returned (.bool true)∧cf W W'∧jk W W'
theorem lawCN_of{f:FuncId}(h: ∀(c:af) (b:ByteArray),lA PP f [.agg (aZ .al 0 c),.v (.string b)] (fun _=>none) 0 (.v (.bool true)) (fun _=>none) 0):M3 f:=fun W v b c hv=>by
 refine(h c b rfl (sJ W) W [v,.string b] (SU W) rfl (fun q a y ha hy=>by
  match q,ha,hy with
  |0,ha,hy=>cases ha;cases hy;exact hv
  |1,ha,hy=>cases ha;cases hy;exact .v _)).mono ?_
 rintro e W' ⟨x,E',he,hG,hE,hS,hc,_,hA⟩
 have:=bN hc
 subst this;exact⟨he,hA,hS⟩
theorem X0{H:Type}{enc:TypeId×Value→H}{W:World}{base:Nat}{v:Value}{d:DataW H}{p:List MemPlace}(h:DataW.Trod enc Tryz.prog W 0 (fun _=>true) true 24 v d p)(jM:Value.okWide Tryz.prog W .any base 24 v): ∃c,Cz (sJ W) (.agg (aZ .al 0 c)) v:=by
 obtain⟨n,hn⟩:=h;obtain⟨c,x,Ir,Pj⟩:=Sc hn;unfold Value.okWide at jM;rw[Tryz.underlying24]at jM;obtain⟨cs,rfl,_,_⟩:=jM;have Ir:cs.toList=[x]:=by simpa[Value.cells]using Ir
 have:cs=[x].toArray:=by rw[←Ir]
 refine⟨c,?_⟩;rw[this];exact .agg _ [x] rfl fun q a y ha hy=>by
  match q,ha,hy with
  |0,ha,hy=>cases ha;cases hy;exact Pj
theorem are{f:FuncId}{fn:Func}{s:ChangeSpec}(hp:fn.params= #[24,9])(hr:fn.resultTypes= #[4])(hv:s.vars=[])(hs: ∀(H:Type) (d d':DataW H),s.fn H [d,d']={results:=[.lit (.bool true)],args:=[d,d']})(Pc:M3 f)
  (H:Type)(enc:TypeId×Value→H)(W:World)(args:Array Value)(ds gs:List (DataW H))(before:List MemPlace)
  (base:Nat)(jM: ∀(j:Nat) t v,fn.params[j]? =some t→args[j]? =some v→Value.okWide Tryz.prog W .any base t v)(hW:DataW.Whole enc Tryz.prog fn.params.toList s.vars false W args.toList ds gs before):
  Calls Tryz.prog f args W fun e W'=> ∃v,e= .returned v∧s.post enc Tryz.prog fn false true false false W args v W':=by
 have hW':=hW
 obtain⟨p,q,hA0,hV,rfl,hfz,hnd⟩:=hW;have hA:DataW.TrodAll enc Tryz.prog W 0 (fun _=>true) true fn.params.toList args.toList ds p:=hA0
 rw[hp]at hA;rw[hv]at hV;obtain⟨v0,v1,d0,d1,p0,p1,rfl,rfl,rfl,h0,h1⟩:=trodAll_two hA;obtain⟨rfl,rfl⟩:=trodVars_none hV;obtain⟨c,hc⟩:=X0 h0 (jM 0 24 v0 (by rw[hp];rfl) rfl);obtain⟨b,GY,_⟩:=Go.ChangeMaps.open_string Tryz.underlying9 (jM 1 9 v1 (by rw[hp];rfl) rfl) h1;subst GY;refine(Pc W v0 b c hc).mono fun e W' ⟨he,hA,hS⟩=>⟨_,he,?_⟩
 have aV: ∀x∈p0++p1,x.block<W.heap.size:=fun x hx=>hW'.lt x (by simpa using hx)
 have zx:(s.fn H ([d0,d1]++[])).results=[.lit (.bool true)]:=by rw[List.append_nil,hs]
 have Nh:(s.fn H ([d0,d1]++[])).args=[d0,d1]:=by rw[List.append_nil,hs]
 have hs3:(s.fn H ([d0,d1]++[])).vars=[]:=by rw[List.append_nil,hs]
 have stay: ∀{t:TypeId} {v:Value} {d:DataW H} {p:List MemPlace},Tryz.prog.readableRec t=true→t<Tryz.prog.types.size→DataW.Trod enc Tryz.prog W 0 (fun _=>true) true t v d p→(∀x∈p,x.block<W.heap.size)→DataW.Trod enc Tryz.prog W' 0 (fun b=>decide (b<W.heap.size)) true t v d p:=fun hr ht h hl=>
  WideElems.Trod_stays laidOut hr ht h (fun x hx=>by
   have hb:=hA x.block (hl x hx)
   cases x with
   |cell b off=>show W'.cell? _=W.cell? _;unfold World.cell?;rw[show W'.heap[b]? =W.heap[b]? from hb]
   |map b=>exact hb) fun x hx=>by simpa using hl x hx
 refine⟨[d0,d1],[],_,[],p0++p1,[],hW',?_,?_,?_,?_,fun h=>(by cases h)⟩
 ·rw[hr,zx];exact trodAll_mk1 (shut_bool Tryz.underlying4 _)
 ·rw[hp,Nh];exact trodAll_mk2 (stay alL alK h0 fun x hx=>aV x (by simp[hx])) (stay aro arl h1 fun x hx=>aV x (by simp[hx]))
 ·rw[hv,hs3];rfl
 ·exact World.keptBut_mono (fun _ h=>h.elim) (World.keptBut_none_iff.2 ⟨hS.1,hS.2.2,hA⟩)
noncomputable def zt(os:Os):World:=
 {World.doorLaid Tryz.prog 60 os with heap:=(World.doorLaid Tryz.prog 60 os).heap.modify 0 fun
   | .cells _ t frozen=> .cells (Go.Pinned.utf8FirstZ.map fun(n:Nat)=>Value.int .u8 (n:Int)).toArray t frozen
   |o=>o}
theorem So(os:Os):laidMet Tryz.prog Rows.passesBlocksRow.laid ((zt os).forCall (fun _ _=>0) ⟨#[],#[Value.agg #[.slice none 0 0],.string ⟨#[]⟩],[]⟩).memory:=
 laidMet_of_run' 8 (by kernel_rfl) (by kernel_rfl)
theorem afU(os:Os){H:Type}(enc:TypeId×Value→H): ∃places,DataW.whole enc Tryz.prog ((zt os).forCall (fun _ _=>0) ⟨#[],#[Value.agg #[.slice none 0 0],.string ⟨#[]⟩],[]⟩).memory Tryz.f6.params.toList Rows.passesBlocksSpec.vars false #[Value.agg #[.slice none 0 0],.string ⟨#[]⟩].toList 8=some ([.agg [.nil],.lit (.string [])],[],places):=
 ⟨[],by kernel_rfl⟩
theorem aaW(Pc:M3 6)(os:Os)(started:os.Started)(H:Type)(enc:TypeId×Value→H)(F:Stop.Interp):
  ReturnsInHanded {} Tryz.checked os 6 .any ((OpenSpec.ofChange Rows.passesBlocksSpec).preRow enc Tryz.prog Tryz.f6 Rows.passesBlocksRow.domain false Rows.passesBlocksRow.laid) (((OpenSpec.ofChange Rows.passesBlocksSpec).at F).post enc Tryz.prog Tryz.f6 false true false false):=by
 obtain⟨places,hx⟩:=afU os enc;refine returnsInHanded_of_row (C:=Tryz.checked) (s:=OpenSpec.ofChange Rows.passesBlocksSpec) asB started (by kernel_rfl) Tryz.func6
  (witness_row_at (enc:=enc) (C:=Tryz.checked) false (zt os) #[Value.agg #[.slice none 0 0],.string ⟨#[]⟩] rfl (by kernel_rfl) (by kernel_rfl) (by kernel_rfl)
   (OpenSpec.preRow_of_cond 8 hx (by kernel_rfl) (fun k hk=>by cases hk) (by kernel_rfl) (So os))) ?_
 intro W base args ds gs before jM hW _ _ _ hL _ _;exact are Tryz.params6 (by kernel_rfl) rfl (fun _ _ _=>rfl) Pc H enc W args ds gs before base jM hW
theorem alH(Pc:M3 6):Rows.PassesBlocksSaid:=
 OpenClaim.holds_of_cond 6 Tryz.f6 rfl rfl rfl rfl rfl rfl rfl ⟨rfl,rfl,rfl,rfl,rfl⟩ rfl rfl rfl rfl rfl (by kernel_rfl) Tryz.func6 (by kernel_rfl)
  (of_decide_eq_true (by kernel_rfl)) (by unfold Func.isWrapper;first|(rw[if_pos (by decide+kernel)];kernel_rfl)|(rw[if_neg (by decide+kernel)];exact⟨rfl,rfl⟩))
  (fun os started H enc _ F=>by rw[OpenClaim.pre_eq_preRow];exact aaW Pc os started H enc F)
theorem ahB(f:FuncId)(fn:Func)(hf:Tryz.pinned.checked.prog.funcNamed "roundelay/roundelaylaw19.PassesBlocks" =some f)(hfn:Tryz.pinned.checked.prog.funcs[f]? =some fn):
  false=Tryz.pinned.checked.prog.looks []∧ ∀(j:Nat) t,fn.params[j]? =some t→Tryz.pinned.checked.prog.wantsStandIn t=false:=by
 obtain rfl:f=6:=oJ ((show Tryz.prog.funcNamed "roundelay/roundelaylaw19.PassesBlocks" =some 6 by kernel_rfl).symm.trans hf) |>.symm;obtain rfl:fn=Tryz.f6:=(oJ (Tryz.func6.symm.trans hfn)).symm;refine⟨by kernel_rfl,fun j t ht=>?_⟩;rw[Tryz.params6]at ht;have ht:=Array.mem_of_getElem? ht
 simp only[List.mem_toArray,List.mem_cons,List.not_mem_nil,or_false]at ht;rcases ht with rfl|rfl
 ·exact(show Tryz.prog.wantsStandIn 24=false by kernel_rfl)
 ·exact(show Tryz.prog.wantsStandIn 9=false by kernel_rfl)
theorem card6(Pc:M3 6):Rows.PassesBlocksCardSaid:=
 Claim7.holds_tied_plain_at .later [] _ _ _ _ (alH Pc) (fun _ h=>by cases h) (by kernel_rfl) (fun _ h=>by cases h) passesBlocks_row_tie rfl ⟨rfl,rfl⟩ (by kernel_rfl) rfl ahB (by kernel_rfl)
end Ab
