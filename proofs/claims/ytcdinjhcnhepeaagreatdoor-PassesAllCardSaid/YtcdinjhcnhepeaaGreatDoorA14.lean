/- PassesAll holds of all pairs of cores (no condition): a part of the proof: an abstract interpreter of the code that is proved sound, models of the functions, and laws of these models. -/
import Derived.Test.YtcdinjhcnhepeaaGreatDoorA02
import Derived.Test.YtcdinjhcnhepeaaGreatDoorA03
import Derived.Test.YtcdinjhcnhepeaaGreatDoorA04
import Derived.Test.YtcdinjhcnhepeaaGreatDoorA04c
import Derived.Test.YtcdinjhcnhepeaaGreatDoorA13
import Derived.Test.YtcdinjhcnhepeaaGreatDoorA12
set_option linter.unusedVariables false
set_option linter.unusedSimpArgs false
set_option linter.unusedSectionVars false
namespace Ab
open Go Go.Proofs.Tryz
set_option maxHeartbeats 100000000
set_option maxRecDepth 100000
variable{I:Pr}(hI:I=ak){M:Md}(hM:M= .ak){n nx r s p q u rl:Nat}{g:Nat→Option Ob}
 include hI hM
theorem yd{a0:ai}{a1:ai}{v:Bool}(h:mH I M n a0 a1=some v)(hg: ∀i,g i=none):
  wK PP true 5 [(.agg (bd M 0 a0)),(.agg (bd M 0 a1))] g nx fun r1 g1 A7=>Lq r1 (vb v)∧g1=g∧A7=nx:=by
 refine Qk lay mixed func5 (c:=c5) (by kernel_rfl) 0 [] alX aoW [] im (bF.cons (ab4 0) (vK PP im)) (Ld (by kernel_rfl) (cl0 im)) 8 (by kernel_rfl) 92 ntmps5 rfl (rs:=[.tmp 4]) (by kernel_rfl) hI fun call hc=>?_;cbv;refine ah h fun y1 c4 h=>⟨_,_,_,us hc (BH hI hM c4),?_⟩;cbv;refine ah h fun y2 sS h=>⟨_,fun hp=>us hc (BH hI hM (aE sS hp.1)),?_⟩;cbv;refine si h (fun h=>?_) fun h=>?_
 ·cbv;refine ah h fun y3 D8 h=>⟨_,_,_,us hc (sI hI hM D8),?_⟩;cbv;cbv;cases h;exact fin
 cbv;refine ah h fun y4 nI h=>?_;refine ah h fun y5 HB h=>?_;refine bk none [(5,(.ptr (.s 5) 0)),(6,(.ptr (.s 6) 0))] [(5,.box [(.sl 0 (M.map (aA M 0) y4.af))]),(6,.box [(.sl 0 (M.map (aA M 0) y5.af))])] g nx ?_ ?_
 ·cbv;repeat' first|exact .inl rfl|exact trivial|(refine⟨_,_,_,us hc (wC hI hM nI (r:=0)),?_⟩;cbv)|(refine⟨_,_,_,us hc (wC hI hM HB (r:=0)),?_⟩;cbv)|apply And.intro
  all_goals exact bw
 cbv;refine ah h fun y6 yW h=>⟨_,_,_,us hc (sG hI hM yW),?_⟩;cbv;refine si h (fun h=>?_) fun h=>?_
 ·cbv;refine ah h fun y7 HA h=>⟨_,_,_,us hc (KY hI hM HA),?_⟩;cbv;refine ah h fun y8 OT h=>⟨_,_,_,us hc (vo hI hM OT),?_⟩;cbv;refine ah h fun y9 Mh h=>⟨_,_,_,us hc (uh hI hM Mh (r:=1000000)),?_⟩;cbv;refine ah h fun wY tV h=>⟨_,_,_,us hc (tK hI hM tV),?_⟩;cbv;refine ah h fun wL zQ h=>⟨_,fun hp=>us hc (gU hI hM (aE zQ hp.1)),?_⟩;cbv;refine si h (fun h=>by cbv;cases h;exact fin) fun h=>?_;cbv;refine kn2 hM ?_;cbv;refine ah h fun EI FO h=>⟨_,_,_,us hc (gU hI hM FO),?_⟩;cbv;refine ah h fun sP xz h=>⟨_,fun hp=>us hc (gU hI hM (aE xz hp.1)),?_⟩;cbv;refine ah h fun Lz J4 h=>⟨_,fun hp=>us hc (sI hI hM (aE J4 hp.1)),?_⟩;cbv;cbv;cases h;exact fin
 cbv;refine ah h fun H8 J2 h=>⟨_,_,_,us hc (vo hI hM J2),?_⟩;cbv;refine ah h fun Ji OW h=>⟨_,_,_,us hc (uh hI hM OW (r:=1000000)),?_⟩;cbv;refine ah h fun y17 agA h=>⟨_,_,_,us hc (tK hI hM agA),?_⟩;cbv;refine ah h fun Uw Vj h=>?_
 (refine⟨_,fun hp=>us hc ((gU (r:=0) (p:=1000000) hI hM (aE Vj hp.1)).wk ?_),?_⟩;next=>exact⟨aF _,⟨(aK hM),trivial⟩,trivial⟩)
 cbv;refine si h (fun h=>by cbv;cases h;exact fin) fun h=>?_;cbv;refine kn2 hM ?_;cbv;refine ah h fun y19 agz h=>⟨_,_,_,us hc (gU hI hM agz),?_⟩;cbv;refine ah h fun R7 OV h=>⟨_,fun hp=>us hc (gU hI hM (aE OV hp.1)),?_⟩;cbv;refine ah h fun y21 agy h=>⟨_,fun hp=>us hc (sI hI hM (aE agy hp.1)),?_⟩;cbv;cbv;cases h;exact fin
theorem ev_law19_PassesAll{a0:ai}{a1:ai}{v:Bool}(h:mH I M n a0 a1=some v):
  cj 5 [(.agg (bd M 0 a0)),(.agg (bd M 0 a1))] (vb v) g nx:=
 ⟨enters func5 (c:=c5) (by kernel_rfl) (by kernel_rfl),wK.lift (fun g hg nx=>yd hI hM h hg) (fun r hr=>by
  simp only[DF,uu,bd,and_true];have h0:(0:Nat)≠r:=by omega
  exact⟨⟨h0,vY hM h0 _⟩,h0,vY hM h0 _⟩) g nx⟩
end Ab
