/- PassesDrops holds of every core (no condition): a part of the proof: an abstract interpreter of the code that is proved sound, models of the functions, and laws of these models. -/
import Derived.Test.YtcdinjhcnhepeaaGreatDoorD02
import Derived.Test.YtcdinjhcnhepeaaGreatDoorD03
import Derived.Test.YtcdinjhcnhepeaaGreatDoorD06
import Derived.Test.YtcdinjhcnhepeaaGreatDoorD07
import Derived.Test.YtcdinjhcnhepeaaGreatDoorD04
import Derived.Test.YtcdinjhcnhepeaaGreatDoorD08
import Derived.Test.YtcdinjhcnhepeaaGreatDoorD09
import Derived.Test.YtcdinjhcnhepeaaGreatDoorD10
import Derived.Test.YtcdinjhcnhepeaaGreatDoorD11
set_option linter.unusedVariables false
set_option linter.unusedSimpArgs false
namespace Ab
open Go Go.Proofs.Tryz
set_option maxHeartbeats 100000000
set_option maxRecDepth 100000
variable{I:Pr}(hI:I=al){M:Md}(hM:M= .al){n nx r s p q u rl:Nat}{g:Nat→Option Ob}
 include hI hM
theorem FF{a0:ah}{v:ah}(h:DO I M n a0=some v):
  bO 77 [(.agg (ba M r a0))] (.agg (ba M r v)) g nx:=by
 refine cr func77 c77 r abF afL [] 5 ntmps77 [.cell 2 24] hI fun call hc=>?_
 cbv
 refine ab h fun y1 cN h=>⟨_,_,_,us hc (zJ hI hM cN),?_⟩;cbv
 cbv;cases h;exact fin
 include hI hM
theorem uw{a1:ah}{v:ah}(h:pv I M n a1=some v):
  bO 78 [(.agg [(.fn (.func 12) [])]),(.agg (ba M r a1))] (.agg (ba M r v)) g nx:=by
 refine cr func78 c78 r Dn EA [] 15 ntmps78 [.cell 4 24] hI fun call hc=>?_
 cbv
 refine ab h fun y1 cN h=>⟨_,_,_,us hc (cf hI hM cN (r:=r)),?_⟩;cbv
 cbv;cases h;exact fin
 include hI hM
theorem s8{a0:ah}{v:ah×Int}(h:kH I M n a0=some v):
  bO 19 [(.agg (ba M p a0))] (.fT [(.agg (ba M r v.1)),(vi v.2)]) g nx:=by
 refine cr func19 c19 r aci ago [] 14 ntmps19 [.cell 2 24,.tmp 3] hI fun call hc=>?_
 cbv
 refine ab h fun y1 cN h=>⟨_,_,_,us hc (cT hI hM cN),?_⟩;cbv
 refine si h (fun h=>by cbv;cases h;exact fin) fun h=>?_
 cbv
 refine ab h fun y2 rT h=>⟨_,_,_,us hc (v7 hI hM rT (r:=r)),?_⟩;cbv
 cbv;cases h;exact fin
 include hI hM
theorem uu{a1:ah}{v:ah}(h:pt I M n a1=some v):
  bO 78 [(.agg [(.fn (.func 19) [])]),(.agg (ba M r a1))] (.agg (ba M r v)) g nx:=by
 refine cr func78 c78 r Dn EA [] 15 ntmps78 [.cell 4 24] hI fun call hc=>?_
 cbv
 refine ab h fun y1 cN h=>⟨_,_,_,us hc (s8 hI hM cN (r:=r)),?_⟩;cbv
 cbv;cases h;exact fin
 include hI hM
theorem uL{a0:ah}{v:ah×Int}(h:gr I M n a0=some v):
  bO 20 [(.agg (ba M p a0))] (.fT [(.agg (ba M r v.1)),(vi v.2)]) g nx:=by
 refine cr func20 c20 r ach agn [] 14 ntmps20 [.cell 2 24,.tmp 3] hI fun call hc=>?_
 cbv
 refine ab h fun y1 cN h=>⟨_,_,_,us hc (cT hI hM cN),?_⟩;cbv
 refine si h (fun h=>by cbv;cases h;exact fin) fun h=>?_
 cbv
 refine ab h fun y2 rT h=>⟨_,_,_,us hc (v5 hI hM rT (r:=r)),?_⟩;cbv
 cbv;cases h;exact fin
 include hI hM
theorem ur{a1:ah}{v:ah}(h:pq I M n a1=some v):
  bO 78 [(.agg [(.fn (.func 20) [])]),(.agg (ba M r a1))] (.agg (ba M r v)) g nx:=by
 refine cr func78 c78 r Dn EA [] 15 ntmps78 [.cell 4 24] hI fun call hc=>?_
 cbv
 refine ab h fun y1 cN h=>⟨_,_,_,us hc (uL hI hM cN (r:=r)),?_⟩;cbv
 cbv;cases h;exact fin
 include hI hM
theorem uq{a1:ah}{v:ah}(h:po I M n a1=some v):
  bO 78 [(.agg [(.fn (.func 11) [])]),(.agg (ba M r a1))] (.agg (ba M r v)) g nx:=by
 refine cr func78 c78 r Dn EA [] 15 ntmps78 [.cell 4 24] hI fun call hc=>?_
 cbv
 refine ab h fun y1 cN h=>⟨_,_,_,us hc (hD hI hM cN (r:=r)),?_⟩;cbv
 cbv;cases h;exact fin
 include hI hM
theorem uo{a1:ah}{v:ah}(h:pn I M n a1=some v):
  bO 78 [(.agg [(.fn (.func 10) [])]),(.agg (ba M r a1))] (.agg (ba M r v)) g nx:=by
 refine cr func78 c78 r Dn EA [] 15 ntmps78 [.cell 4 24] hI fun call hc=>?_
 cbv
 refine ab h fun y1 cN h=>⟨_,_,_,us hc (mN hI hM cN (r:=r)),?_⟩;cbv
 cbv;cases h;exact fin
 include hI hM
theorem FG{a0:ah}{v:ah×Int×Int}(h:DQ I M n a0=some v):
  bO 23 [(.agg (ba M r a0))] (.fT [(.agg (ba M r v.1)),(vi v.2.1),(vi v.2.2)]) g nx:=by
 refine cr func23 c23 r acg agm [] 61 ntmps23 [.cell 2 24,.tmp 3,.tmp 4] hI fun call hc=>?_
 cbv
 refine ab h fun y1 cN h=>⟨_,_,_,us hc (cT hI hM cN),?_⟩;cbv
 refine si h (fun h=>by cbv;cases h;exact fin) fun h=>?_
 cbv
 refine ab h fun y2 rT h=>⟨_,_,_,us hc (FF hI hM rT),?_⟩;cbv
 refine⟨_,blL (by rfl),?_⟩;cbv
 refine⟨5,TN hI rfl,?_⟩;cbv
 refine ic 12 (fun ju aS=>?_);cbv
 refine e9 (jk hI (by decide)) ?_;cbv
 refine⟨_,(by exact⟨by decide,rfl,rfl⟩),?_⟩;cbv
 refine⟨_,blL (by rfl),?_⟩;cbv
 refine⟨_,apL hI (by rfl) (by rfl),?_⟩;cbv
 refine aS _ (CS [10] [(5,.any),(17,.any),(29,(vi 1)),(30,.any)] fun Bc cI=>?_)
 cbv
 refine e9 (jk hI (by decide)) ?_;cbv
 refine⟨_,(by exact⟨by decide,rfl,rfl⟩),?_⟩;cbv
 refine⟨_,blL (by rfl),?_⟩;cbv
 refine⟨_,apL hI (by rfl) (by rfl),?_⟩;cbv
 refine cI _ (CS [10] [(5,.any),(17,.any),(29,(vi 2)),(30,.any)] fun NJ iI=>?_)
 cbv
 refine e9 (jk hI (by decide)) ?_;cbv
 refine⟨_,(by exact⟨by decide,rfl,rfl⟩),?_⟩;cbv
 refine⟨_,blL (by rfl),?_⟩;cbv
 refine⟨_,apL hI (by rfl) (by rfl),?_⟩;cbv
 refine iI _ (CS [10] [(5,.any),(17,.any),(29,(vi 3)),(30,.any)] fun Q5 qC=>?_)
 cbv
 refine e9 (jk hI (by decide)) ?_;cbv
 refine⟨_,(by exact⟨by decide,rfl,rfl⟩),?_⟩;cbv
 refine⟨_,blL (by rfl),?_⟩;cbv
 refine⟨_,apL hI (by rfl) (by rfl),?_⟩;cbv
 refine qC _ (CS [10] [(5,.any),(17,.any),(29,(vi 4)),(30,.any)] fun Q4 qB=>?_)
 cbv
 refine e9 (jk hI (by decide)) ?_;cbv
 refine⟨_,(by exact⟨by decide,rfl,rfl⟩),?_⟩;cbv
 refine⟨_,blL (by rfl),?_⟩;cbv
 refine⟨_,apL hI (by rfl) (by rfl),?_⟩;cbv
 refine qB _ (CS [10] [(5,.any),(17,.any),(29,(vi 5)),(30,.any)] fun VL qA=>?_)
 cbv
 refine dk (eS hI (by decide)) ?_;cbv
 refine lp h (fun(l3,z4,z5)=>[(7,(vi z5)),(27,.any),(28,.any),(29,.any),(30,.any),(39,(vi z4))]) (fun(l3,z4,z5)=>[(6,.box [(.sl r (M.map (ao M r) l3))])]) fun Rm7 m7 vX st h=>?_
 obtain⟨l3,z4,z5⟩:=st
 dsimp only[yY]at h
 cbv
 refine si h (fun h=>?_) fun h=>by cbv;cases h;exact fin
 as_aux_lemma=>
  cbv
  refine⟨5,TN hI rfl,?_⟩;cbv
  refine ic 12 (fun Rm8 Co=>?_);cbv
  refine e9 (jk hI (by decide)) ?_;cbv
  refine⟨_,(by exact⟨by decide,rfl,rfl⟩),?_⟩;cbv
  refine ab h fun y6 yT h=>⟨_,_,_,us hc (uw hI hM yT),?_⟩;cbv
  refine Co _ (CS [] [(5,.any),(17,.any),(27,.any),(28,.any),(29,.any),(30,.any),(40,.any),(44,(vi 1)),(45,.any)] fun Rm9 KQ=>?_)
  cbv
  refine e9 (jk hI (by decide)) ?_;cbv
  refine⟨_,(by exact⟨by decide,rfl,rfl⟩),?_⟩;cbv
  refine ab h fun y7 JL h=>⟨_,_,_,us hc (uu hI hM JL),?_⟩;cbv
  refine KQ _ (CS [] [(5,.any),(17,.any),(27,.any),(28,.any),(29,.any),(30,.any),(40,.any),(44,(vi 2)),(45,.any)] fun agI GC=>?_)
  cbv
  refine e9 (jk hI (by decide)) ?_;cbv
  refine⟨_,(by exact⟨by decide,rfl,rfl⟩),?_⟩;cbv
  refine ab h fun y8 RR h=>⟨_,_,_,us hc (ur hI hM RR),?_⟩;cbv
  refine GC _ (CS [] [(5,.any),(17,.any),(27,.any),(28,.any),(29,.any),(30,.any),(40,.any),(44,(vi 3)),(45,.any)] fun arc aaQ=>?_)
  cbv
  refine e9 (jk hI (by decide)) ?_;cbv
  refine⟨_,(by exact⟨by decide,rfl,rfl⟩),?_⟩;cbv
  refine ab h fun y9 JK h=>⟨_,_,_,us hc (uq hI hM JK),?_⟩;cbv
  refine aaQ _ (CS [] [(5,.any),(17,.any),(27,.any),(28,.any),(29,.any),(30,.any),(40,.any),(44,(vi 4)),(45,.any)] fun arb aaP=>?_)
  cbv
  refine e9 (jk hI (by decide)) ?_;cbv
  refine⟨_,(by exact⟨by decide,rfl,rfl⟩),?_⟩;cbv
  refine ab h fun qO oT h=>⟨_,_,_,us hc (uo hI hM oT),?_⟩;cbv
  refine aaP _ (CS [] [(5,.any),(17,.any),(27,.any),(28,.any),(29,.any),(30,.any),(40,.any),(44,(vi 5)),(45,.any)] fun ara Us=>?_)
  cbv
  refine dk (eS hI (by decide)) ?_;cbv
  refine ab h fun sm uQ h=>⟨_,_,_,us hc (bu hI hM uQ),?_⟩;cbv
  refine si h (fun h=>by cbv;cases h;exact fin) fun h=>?_
  cbv
  exact bN (vX _ _ h)
end Ab
