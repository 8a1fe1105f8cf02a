/- PassesBlocks holds of all cores and names (no condition): a part of the proof: an abstract interpreter of the code that is proved sound, models of the functions, and laws of these models. -/
import Derived.Test.YtcdinjhcnhepeaaGreatDoorB03
import Derived.Test.YtcdinjhcnhepeaaGreatDoorB04
import Derived.Test.YtcdinjhcnhepeaaGreatDoorB05
import Derived.Test.YtcdinjhcnhepeaaGreatDoorB18
import Derived.Test.YtcdinjhcnhepeaaGreatDoorB19
import Derived.Test.YtcdinjhcnhepeaaGreatDoorB20
import Derived.Test.YtcdinjhcnhepeaaGreatDoorB17
set_option linter.unusedVariables false
set_option linter.unusedSimpArgs false
set_option linter.unusedSectionVars false
namespace Ab
open Go Go.Proofs.Tryz
set_option maxHeartbeats 100000000
set_option maxRecDepth 100000
variable{I:Pr}(hI:I=al){M:Md}(hM:M= .al){n nx r s p q u rl:Nat}{g:Nat→Option Ob}
 include hI hM
theorem tT{a0:af}{v:af×Int}(h:sD I M n a0=some v):
  cv 19 [(.agg (aZ M p a0))] (.gw [(.agg (aZ M r v.1)),(vi v.2)]) g nx:=by
 refine cS func19 c19 r afF aj3 [] 14 ntmps19 [.cell 2 24,.tmp 3] hI fun call hc=>?_;cbv;refine ag h fun y1 c9 h=>⟨_,_,_,us hc (dh hI hM c9),?_⟩;cbv;refine si h (fun h=>by cbv;cases h;exact fin) fun h=>?_;cbv;refine ag h fun y2 uz h=>⟨_,_,_,us hc (xd hI hM uz (r:=r)),?_⟩;cbv;cbv;cases h;exact fin
 include hI hM
theorem ve{a1:af}{v:af}(h:p9 I M n a1=some v):
  cv 78 [(.agg [(.fn (.func 19) [])]),(.agg (aZ M r a1))] (.agg (aZ M r v)) g nx:=by
 refine cS func78 c78 r ES Gu [] 15 ntmps78 [.cell 4 24] hI fun call hc=>?_;cbv;refine ag h fun y1 c9 h=>⟨_,_,_,us hc (tT hI hM c9 (r:=r)),?_⟩;cbv;cbv;cases h;exact fin
 include hI hM
theorem vI{a0:af}{v:af×Int}(h:uF I M n a0=some v):
  cv 20 [(.agg (aZ M p a0))] (.gw [(.agg (aZ M r v.1)),(vi v.2)]) g nx:=by
 refine cS func20 c20 r afE aj2 [] 14 ntmps20 [.cell 2 24,.tmp 3] hI fun call hc=>?_;cbv;refine ag h fun y1 c9 h=>⟨_,_,_,us hc (dh hI hM c9),?_⟩;cbv;refine si h (fun h=>by cbv;cases h;exact fin) fun h=>?_;cbv;refine ag h fun y2 uz h=>⟨_,_,_,us hc (xc hI hM uz (r:=r)),?_⟩;cbv;cbv;cases h;exact fin
 include hI hM
theorem vc{a1:af}{v:af}(h:p8 I M n a1=some v):
  cv 78 [(.agg [(.fn (.func 20) [])]),(.agg (aZ M r a1))] (.agg (aZ M r v)) g nx:=by
 refine cS func78 c78 r ES Gu [] 15 ntmps78 [.cell 4 24] hI fun call hc=>?_;cbv;refine ag h fun y1 c9 h=>⟨_,_,_,us hc (vI hI hM c9 (r:=r)),?_⟩;cbv;cbv;cases h;exact fin
 include hI hM
theorem uY{a1:af}{v:af}(h:p6 I M n a1=some v):
  cv 78 [(.agg [(.fn (.func 10) [])]),(.agg (aZ M r a1))] (.agg (aZ M r v)) g nx:=by
 refine cS func78 c78 r ES Gu [] 15 ntmps78 [.cell 4 24] hI fun call hc=>?_;cbv;refine ag h fun y1 c9 h=>⟨_,_,_,us hc (xg hI hM c9 (r:=r)),?_⟩;cbv;cbv;cases h;exact fin
 include hI hM
theorem Hn{a0:af}{v:af×Int×Int}(h:FD I M n a0=some v):
  cv 23 [(.agg (aZ M p a0))] (.gw [(.agg (aZ M r v.1)),(vi v.2.1),(vi v.2.2)]) g nx:=by
 refine cS func23 c23 r afD aj1 [] 61 ntmps23 [.cell 2 24,.tmp 3,.tmp 4] hI fun call hc=>?_;cbv;refine ag h fun y1 c9 h=>⟨_,_,_,us hc (dh hI hM c9),?_⟩;cbv;refine si h (fun h=>by cbv;cases h;exact fin) fun h=>?_;cbv;refine ag h fun y2 uz h=>⟨_,_,_,us hc (yJ hI hM uz (r:=r)),?_⟩;cbv;refine⟨_,blL (by rfl),?_⟩;cbv;refine⟨5,adE hI rfl,?_⟩;cbv;refine kD 12 (fun mK aW=>?_);cbv;refine oy (sG hI (by decide)) ?_;cbv;refine⟨_,(by exact⟨by decide,rfl,rfl⟩),?_⟩;cbv;refine⟨_,blL (by rfl),?_⟩;cbv;refine⟨_,apL hI (by rfl) (by rfl),?_⟩;cbv;refine aW _ (YI [10] [(5,.any),(17,.any),(29,(vi 1)),(30,.any)] fun D0 eM=>?_);cbv;refine oy (sG hI (by decide)) ?_;cbv;refine⟨_,(by exact⟨by decide,rfl,rfl⟩),?_⟩;cbv;refine⟨_,blL (by rfl),?_⟩;cbv;refine⟨_,apL hI (by rfl) (by rfl),?_⟩;cbv;refine eM _ (YI [10] [(5,.any),(17,.any),(29,(vi 2)),(30,.any)] fun Nl jO=>?_);cbv;refine oy (sG hI (by decide)) ?_;cbv;refine⟨_,(by exact⟨by decide,rfl,rfl⟩),?_⟩;cbv;refine⟨_,blL (by rfl),?_⟩;cbv;refine⟨_,apL hI (by rfl) (by rfl),?_⟩;cbv;refine jO _ (YI [10] [(5,.any),(17,.any),(29,(vi 3)),(30,.any)] fun Tf ni=>?_);cbv;refine oy (sG hI (by decide)) ?_;cbv;refine⟨_,(by exact⟨by decide,rfl,rfl⟩),?_⟩;cbv;refine⟨_,blL (by rfl),?_⟩;cbv;refine⟨_,apL hI (by rfl) (by rfl),?_⟩;cbv;refine ni _ (YI [10] [(5,.any),(17,.any),(29,(vi 4)),(30,.any)] fun TG oX=>?_);cbv;refine oy (sG hI (by decide)) ?_;cbv;refine⟨_,(by exact⟨by decide,rfl,rfl⟩),?_⟩;cbv;refine⟨_,blL (by rfl),?_⟩;cbv;refine⟨_,apL hI (by rfl) (by rfl),?_⟩;cbv;refine oX _ (YI [10] [(5,.any),(17,.any),(29,(vi 5)),(30,.any)] fun Rm6 rG=>?_);cbv;refine oA (sH hI (by decide)) ?_;cbv;refine lp h (fun(l3,z4,z5)=>[(7,(vi z5)),(27,.any),(28,.any),(29,.any),(30,.any),(39,(vi z4))]) (fun(l3,z4,z5)=>[(6,.box [(.sl r (M.map (ay M r) l3))])]) fun Rm7 m7 wW st h=>?_;obtain⟨l3,z4,z5⟩:=st;dsimp only[Au]at h;cbv;refine si h (fun h=>?_) fun h=>by cbv;cases h;exact fin
 as_aux_lemma=>
  cbv;refine⟨5,adE hI rfl,?_⟩;cbv;refine kD 12 (fun Rm8 Cd=>?_);cbv;refine oy (sG hI (by decide)) ?_;cbv;refine⟨_,(by exact⟨by decide,rfl,rfl⟩),?_⟩;cbv;refine ag h fun y6 Ao h=>⟨_,_,_,us hc (vf hI hM Ao),?_⟩;cbv;refine Cd _ (YI [] [(5,.any),(17,.any),(27,.any),(28,.any),(29,.any),(30,.any),(40,.any),(44,(vi 1)),(45,.any)] fun Rm9 Xn=>?_);cbv;refine oy (sG hI (by decide)) ?_;cbv;refine⟨_,(by exact⟨by decide,rfl,rfl⟩),?_⟩;cbv;refine ag h fun y7 Jy h=>⟨_,_,_,us hc (ve hI hM Jy),?_⟩;cbv;refine Xn _ (YI [] [(5,.any),(17,.any),(27,.any),(28,.any),(29,.any),(30,.any),(40,.any),(44,(vi 2)),(45,.any)] fun aps Xo=>?_);cbv;refine oy (sG hI (by decide)) ?_;cbv;refine⟨_,(by exact⟨by decide,rfl,rfl⟩),?_⟩;cbv;refine ag h fun y8 N2 h=>⟨_,_,_,us hc (vc hI hM N2),?_⟩;cbv;refine Xo _ (YI [] [(5,.any),(17,.any),(27,.any),(28,.any),(29,.any),(30,.any),(40,.any),(44,(vi 3)),(45,.any)] fun Rm11 aon=>?_);cbv;refine oy (sG hI (by decide)) ?_;cbv;refine⟨_,(by exact⟨by decide,rfl,rfl⟩),?_⟩;cbv;refine ag h fun y9 RP h=>⟨_,_,_,us hc (uZ hI hM RP),?_⟩;cbv;refine aon _ (YI [] [(5,.any),(17,.any),(27,.any),(28,.any),(29,.any),(30,.any),(40,.any),(44,(vi 4)),(45,.any)] fun Rm12 aom=>?_);cbv;refine oy (sG hI (by decide)) ?_;cbv;refine⟨_,(by exact⟨by decide,rfl,rfl⟩),?_⟩;cbv;refine ag h fun yU wq h=>⟨_,_,_,us hc (uY hI hM wq),?_⟩;cbv;refine aom _ (YI [] [(5,.any),(17,.any),(27,.any),(28,.any),(29,.any),(30,.any),(40,.any),(44,(vi 5)),(45,.any)] fun Rm13 hRm13=>?_);cbv;refine oA (sH hI (by decide)) ?_;cbv;refine ag h fun uf BM h=>⟨_,_,_,us hc (dv hI hM BM),?_⟩;cbv;refine si h (fun h=>by cbv;cases h;exact fin) fun h=>?_;cbv;exact bY (wW _ _ h)
end Ab
