/- PassesPuts holds of every core (no condition): a part of the proof: an abstract interpreter of the code that is proved sound, models of the functions, and laws of these models. -/
import Derived.Test.YtcdinjhcnhepeaaGreatDoorP02
import Derived.Test.YtcdinjhcnhepeaaGreatDoorP03
import Derived.Test.YtcdinjhcnhepeaaGreatDoorP15
import Derived.Test.YtcdinjhcnhepeaaGreatDoorP16
import Derived.Test.YtcdinjhcnhepeaaGreatDoorP04
set_option linter.unusedVariables false
set_option linter.unusedSimpArgs false
namespace Ab
open Go Go.Proofs.Tryz
set_option maxHeartbeats 100000000
set_option maxRecDepth 100000
variable{I:Pr}(hI:I=an){M:Md}(hM:M= .an){n nx r s p q u rl:Nat}{g:Nat→Option Ob}
 include hI hM
theorem ev_law19_PassesPuts{a0:ai}{v:Bool}(h:nf I M n a0=some v):
  bQ 4 [(.agg (aX M 0 a0))] (vb v) g nx:=by
 refine cC func4 c4 0 ahs akf [] 46 ntmps4 [.tmp 2] hI fun call hc=>?_
 cbv
 refine ae h fun y1 cR h=>⟨_,_,_,us hc (H8 hI hM cR),?_⟩;cbv
 refine si h (fun h=>?_) fun h=>?_
 ·cbv
  refine ae h fun y2 qX h=>⟨_,_,_,us hc (p6 hI hM qX),?_⟩;cbv
  cbv;cases h;exact fin
 cbv
 refine ae h fun y3 Hl h=>⟨_,_,_,us hc (tD hI hM Hl (r:=0)),?_⟩;cbv
 refine ae h fun y4 lC h=>⟨_,_,_,us hc (vz hI hM lC),?_⟩;cbv
 refine si h (fun h=>?_) fun h=>?_
 ·as_aux_lemma=>
   cbv
   refine ae h fun y5 Dh h=>⟨_,_,_,us hc (D9 hI hM Dh),?_⟩;cbv
   refine ae h fun y6 wE h=>⟨_,_,_,us hc (tV hI hM wE),?_⟩;cbv
   refine ae h fun y7 Hj h=>⟨_,fun hp=>us hc (vE hI hM (ax Hj hp.1)),?_⟩;cbv
   refine ae h fun y8 O1 h=>⟨_,fun hp=>us hc (bP hI hM (ax O1 hp.1)),?_⟩;cbv
   refine⟨_,Zc (by rfl),?_⟩;cbv
   refine⟨_,gR (enc:=ao) (l:=[3,4]) hM ⟨⟨(ah _),rfl⟩,⟨(ah _),rfl⟩,trivial⟩,?_⟩;cbv
   refine ae h fun y9 Hi h=>⟨_,fun hp=>us hc (oe hI hM (ax Hi hp.1)),?_⟩;cbv
   refine ae h fun qT nc h=>⟨_,fun hp=>us hc (p6 hI hM (ax nc hp.1)),?_⟩;cbv
   cbv;cases h;exact fin
 cbv
 refine ae h fun rJ rU h=>⟨_,_,_,us hc (tV hI hM rU),?_⟩;cbv
 refine ae h fun CG Dl h=>?_
 (refine⟨_,fun hp=>us hc ((vE (r:=0) hI hM (ax Dl hp.1)).wk ?_),?_⟩;next=>exact⟨aA _,(aH hM),trivial⟩)
 cbv
 refine ae h fun ov pH h=>⟨_,fun hp=>us hc (bP hI hM (ax pH hp.1)),?_⟩;cbv
 refine⟨_,Zc (by rfl),?_⟩;cbv
 refine⟨_,gR (enc:=ao) (l:=[3,4]) hM ⟨⟨(ah _),rfl⟩,⟨(ah _),rfl⟩,trivial⟩,?_⟩;cbv
 refine ae h fun EK Dk h=>⟨_,fun hp=>us hc (oe hI hM (ax Dk hp.1)),?_⟩;cbv
 refine ae h fun Ft Dj h=>⟨_,fun hp=>us hc (p6 hI hM (ax Dj hp.1)),?_⟩;cbv
 cbv;cases h;exact fin
end Ab
