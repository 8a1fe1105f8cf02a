/- PassesBlocks holds of all cores and names (no condition): a part of the proof: an abstract interpreter of the code that is proved sound, models of the functions, and laws of these models. -/
import Derived.Test.YtcdinjhcnhepeaaGreatDoorB02
import Derived.Test.YtcdinjhcnhepeaaGreatDoorB03
import Derived.Test.YtcdinjhcnhepeaaGreatDoorB04
import Derived.Test.YtcdinjhcnhepeaaGreatDoorB05
import Derived.Test.YtcdinjhcnhepeaaGreatDoorB23
import Derived.Test.YtcdinjhcnhepeaaGreatDoorB17
import Derived.Test.YtcdinjhcnhepeaaGreatDoorB21
import Derived.Test.YtcdinjhcnhepeaaGreatDoorB06
import Derived.Test.YtcdinjhcnhepeaaGreatDoorB16
set_option linter.unusedVariables false
set_option linter.unusedSimpArgs false
set_option linter.unusedSectionVars false
namespace Ab
open Go Go.Proofs.Tryz
set_option maxHeartbeats 100000000
set_option maxRecDepth 100000
variable{I:Pr}(hI:I=al){M:Md}(hM:M= .al){n nx r s p q u rl:Nat}{g:Nat→Option Ob}
 include hI hM
theorem tU{a0:af}{a1:ByteArray}{v:Bool}(h:iH I M n a0 a1=some v)(hg: ∀i,g i=none):
  vq PP true 6 [(.agg (aZ M 0 a0)),(vs a1)] g nx fun r1 g1 Ax=>KQ r1 (vb v)∧g1=g∧Ax=nx:=by
 refine Pq lay mixed func6 (c:=c6) (by kernel_rfl) 0 [] alC aoR [] gL (bp.cons (abJ 0) (sX PP gL)) (Kz (by kernel_rfl) (cl0 gL)) 8 (by kernel_rfl) 99 ntmps6 rfl (rs:=[.tmp 4]) (by kernel_rfl) hI fun call hc=>?_;cbv;refine ag h fun y1 c9 h=>⟨_,_,_,us hc (Kl hI hM c9),?_⟩;cbv;refine letE h fun n2 oC h=>⟨_,gS hI oC,?_⟩;cbv;refine si h (fun h=>?_) fun h=>?_
 ·cbv;refine ag h fun y3 JA h=>⟨_,_,_,us hc (rj hI hM JA),?_⟩;cbv;cbv;cases h;exact fin
 cbv;refine ag h fun y4 oc h=>⟨_,_,_,us hc (A5 hI hM oc (r:=0)),?_⟩;cbv;refine ag h fun y5 Jz h=>⟨_,_,_,us hc (Gk hI hM Jz),?_⟩;cbv;refine si h (fun h=>?_) fun h=>?_
 ·as_aux_lemma=>
   cbv;refine ag h fun y6 Ao h=>?_;refine ag h fun y7 Jy h=>?_;apply Exists.intro;refine⟨?_,_,rfl,?_⟩
   ·cbv;(repeat' first|exact .inl rfl|exact trivial|(refine⟨_,_,_,us hc (tQ hI hM Ao),?_⟩;cbv)|(refine⟨_,_,_,us hc (Gj hI hM Jy),?_⟩;cbv)|apply And.intro);all_goals exact bn
   cbv;refine ag h fun y8 N2 h=>⟨_,_,_,us hc (Hl hI hM N2),?_⟩;cbv;refine ag h fun y9 RP h=>⟨_,_,_,us hc (nw hI hM RP),?_⟩;cbv;refine ag h fun yU wq h=>⟨_,_,_,us hc (pQ hI hM wq (r:=1000000)),?_⟩;cbv;refine ag h fun uf BM h=>⟨_,_,_,us hc (xf hI hM BM (r:=1000001)),?_⟩;cbv;refine ag h fun Ns N7 h=>⟨_,fun hp=>us hc (yK hI hM (aD N7 hp.1)),?_⟩;cbv;refine ag h fun ue za h=>⟨_,fun hp=>us hc (jw hI hM (aD za hp.1)),?_⟩;cbv;refine ag h fun Nr N6 h=>⟨_,fun hp=>us hc (jw hI hM (aD N6 hp.1)),?_⟩;cbv;refine si h (fun h=>by cbv;cases h;exact fin) fun h=>?_;cbv;refine kn2 hM ?_;cbv;refine kn2 hM ?_;cbv;refine ag h fun KN JC h=>⟨_,_,_,us hc (jw hI hM JC),?_⟩;cbv;refine ag h fun KX JB h=>⟨_,fun hp=>us hc (rj hI hM (aD JB hp.1)),?_⟩;cbv;cbv;cases h;exact fin
 cbv;refine ag h fun Nq N5 h=>⟨_,_,_,us hc (nw hI hM N5),?_⟩;cbv;refine ag h fun Np UI h=>⟨_,_,_,us hc (pQ hI hM UI (r:=1000000)),?_⟩;cbv;refine ag h fun YB af5 h=>⟨_,_,_,us hc (xf hI hM af5 (r:=1000001)),?_⟩;cbv;refine ag h fun PW N4 h=>?_
 (refine⟨_,fun hp=>us hc ((yK (r:=0) hI hM (aD N4 hp.1)).wk ?_),?_⟩;next=>exact⟨aA _,(aJ hM),trivial⟩)
 cbv;refine ag h fun y21 af4 h=>?_
 (refine⟨_,fun hp=>us hc ((jw (r:=0) (p:=1000000) hI hM (aD af4 hp.1)).wk ?_),?_⟩;next=>exact⟨aA _,⟨(aJ hM),trivial⟩,trivial⟩)
 cbv;refine ag h fun YA UH h=>?_
 (refine⟨_,fun hp=>us hc ((jw (r:=0) (p:=1000001) hI hM (aD UH hp.1)).wk ?_),?_⟩;next=>exact⟨aA _,⟨(aJ hM),trivial⟩,trivial⟩)
 cbv;refine si h (fun h=>by cbv;cases h;exact fin) fun h=>?_;cbv;refine kn2 hM ?_;cbv;refine kn2 hM ?_;cbv;refine ag h fun y23 af3 h=>⟨_,_,_,us hc (jw hI hM af3),?_⟩;cbv;refine ag h fun y24 af2 h=>⟨_,fun hp=>us hc (rj hI hM (aD af2 hp.1)),?_⟩;cbv;cbv;cases h;exact fin
theorem ev_law19_PassesBlocks{a0:af}{a1:ByteArray}{v:Bool}(h:iH I M n a0 a1=some v):
  cv 6 [(.agg (aZ M 0 a0)),(vs a1)] (vb v) g nx:=
 ⟨enters func6 (c:=c6) (by kernel_rfl) (by kernel_rfl),vq.lift (fun g hg nx=>tU hI hM h hg) (fun r hr=>by
  simp only[Em,uc,aZ,vs,and_true];have h0:(0:Nat)≠r:=by omega
  exact⟨h0,zg hM h0 _⟩) g nx⟩
end Ab
