/- PassesPuts holds of every core (no condition): a part of the proof: an abstract interpreter of the code that is proved sound, models of the functions, and laws of these models. -/
import Derived.Test.YtcdinjhcnhepeaaGreatDoorP02
import Derived.Test.YtcdinjhcnhepeaaGreatDoorP03
import Derived.Test.YtcdinjhcnhepeaaGreatDoorP06
import Derived.Test.YtcdinjhcnhepeaaGreatDoorP07
import Derived.Test.YtcdinjhcnhepeaaGreatDoorP08
import Derived.Test.YtcdinjhcnhepeaaGreatDoorP09
import Derived.Test.YtcdinjhcnhepeaaGreatDoorP10
import Derived.Test.YtcdinjhcnhepeaaGreatDoorP11
import Derived.Test.YtcdinjhcnhepeaaGreatDoorP04
import Derived.Test.YtcdinjhcnhepeaaGreatDoorP13
set_option linter.unusedVariables false
set_option linter.unusedSimpArgs false
namespace Ab
open Go Go.Proofs.Tryz
set_option maxHeartbeats 100000000
set_option maxRecDepth 100000
variable{I:Pr}(hI:I=an){M:Md}(hM:M= .an){n nx r s p q u rl:Nat}{g:Nat→Option Ob}
 include hI hM
theorem Fh{a0:ai}{v:ai}(h:Dy I M n a0=some v):
  bQ 77 [(.agg (aX M r a0))] (.agg (aX M r v)) g nx:=by
 refine cC func77 c77 r abc afn [] 5 ntmps77 [.cell 2 24] hI fun call hc=>?_
 cbv
 refine ae h fun y1 cR h=>⟨_,_,_,us hc (zy hI hM cR),?_⟩;cbv
 cbv;cases h;exact fin
 include hI hM
theorem tA{a1:ai}{v:ai}(h:oN I M n a1=some v):
  bQ 78 [(.agg [(.fn (.func 12) [])]),(.agg (aX M r a1))] (.agg (aX M r v)) g nx:=by
 refine cC func78 c78 r CV Eh [] 15 ntmps78 [.cell 4 24] hI fun call hc=>?_
 cbv
 refine ae h fun y1 cR h=>⟨_,_,_,us hc (sw hI hM cR (r:=r)),?_⟩;cbv
 cbv;cases h;exact fin
 include hI hM
theorem jG{a0:ai}{v:ai×Int}(h:fA I M n a0=some v):
  bQ 19 [(.agg (aX M p a0))] (.gd [(.agg (aX M r v.1)),(vi v.2)]) g nx:=by
 refine cC func19 c19 r abQ af0 [] 14 ntmps19 [.cell 2 24,.tmp 3] hI fun call hc=>?_
 cbv
 refine ae h fun y1 cR h=>⟨_,_,_,us hc (cP hI hM cR),?_⟩;cbv
 refine si h (fun h=>by cbv;cases h;exact fin) fun h=>?_
 cbv
 refine ae h fun y2 qX h=>⟨_,_,_,us hc (vB hI hM qX (r:=r)),?_⟩;cbv
 cbv;cases h;exact fin
 include hI hM
theorem tz{a1:ai}{v:ai}(h:oM I M n a1=some v):
  bQ 78 [(.agg [(.fn (.func 19) [])]),(.agg (aX M r a1))] (.agg (aX M r v)) g nx:=by
 refine cC func78 c78 r CV Eh [] 15 ntmps78 [.cell 4 24] hI fun call hc=>?_
 cbv
 refine ae h fun y1 cR h=>⟨_,_,_,us hc (jG hI hM cR (r:=r)),?_⟩;cbv
 cbv;cases h;exact fin
 include hI hM
theorem fe{a0:ai}{v:ai×Int}(h:eo I M n a0=some v):
  bQ 20 [(.agg (aX M p a0))] (.gd [(.agg (aX M r v.1)),(vi v.2)]) g nx:=by
 refine cC func20 c20 r abP afZ [] 14 ntmps20 [.cell 2 24,.tmp 3] hI fun call hc=>?_
 cbv
 refine ae h fun y1 cR h=>⟨_,_,_,us hc (cP hI hM cR),?_⟩;cbv
 refine si h (fun h=>by cbv;cases h;exact fin) fun h=>?_
 cbv
 refine ae h fun y2 qX h=>⟨_,_,_,us hc (vA hI hM qX (r:=r)),?_⟩;cbv
 cbv;cases h;exact fin
 include hI hM
theorem tw{a1:ai}{v:ai}(h:oL I M n a1=some v):
  bQ 78 [(.agg [(.fn (.func 20) [])]),(.agg (aX M r a1))] (.agg (aX M r v)) g nx:=by
 refine cC func78 c78 r CV Eh [] 15 ntmps78 [.cell 4 24] hI fun call hc=>?_
 cbv
 refine ae h fun y1 cR h=>⟨_,_,_,us hc (fe hI hM cR (r:=r)),?_⟩;cbv
 cbv;cases h;exact fin
 include hI hM
theorem tu{a1:ai}{v:ai}(h:oK I M n a1=some v):
  bQ 78 [(.agg [(.fn (.func 11) [])]),(.agg (aX M r a1))] (.agg (aX M r v)) g nx:=by
 refine cC func78 c78 r CV Eh [] 15 ntmps78 [.cell 4 24] hI fun call hc=>?_
 cbv
 refine ae h fun y1 cR h=>⟨_,_,_,us hc (B8 hI hM cR (r:=r)),?_⟩;cbv
 cbv;cases h;exact fin
 include hI hM
theorem tq{a1:ai}{v:ai}(h:oJ I M n a1=some v):
  bQ 78 [(.agg [(.fn (.func 10) [])]),(.agg (aX M r a1))] (.agg (aX M r v)) g nx:=by
 refine cC func78 c78 r CV Eh [] 15 ntmps78 [.cell 4 24] hI fun call hc=>?_
 cbv
 refine ae h fun y1 cR h=>⟨_,_,_,us hc (vD hI hM cR (r:=r)),?_⟩;cbv
 cbv;cases h;exact fin
 include hI hM
theorem Fi{a0:ai}{v:ai×Int×Int}(h:Dz I M n a0=some v):
  bQ 23 [(.agg (aX M r a0))] (.gd [(.agg (aX M r v.1)),(vi v.2.1),(vi v.2.2)]) g nx:=by
 refine cC func23 c23 r abO afY [] 61 ntmps23 [.cell 2 24,.tmp 3,.tmp 4] hI fun call hc=>?_
 cbv
 refine ae h fun y1 cR h=>⟨_,_,_,us hc (cP hI hM cR),?_⟩;cbv
 refine si h (fun h=>by cbv;cases h;exact fin) fun h=>?_
 cbv
 refine ae h fun y2 qX h=>⟨_,_,_,us hc (Fh hI hM qX),?_⟩;cbv
 refine⟨_,Zc (by rfl),?_⟩;cbv
 refine⟨5,Tb hI rfl,?_⟩;cbv
 refine iu 12 (fun jJ aQ=>?_);cbv
 refine jv (nh hI (by decide)) ?_;cbv
 refine⟨_,(by exact⟨by decide,rfl,rfl⟩),?_⟩;cbv
 refine⟨_,Zc (by rfl),?_⟩;cbv
 refine⟨_,apL hI (by rfl) (by rfl),?_⟩;cbv
 refine aQ _ (KO [10] [(5,.any),(17,.any),(29,(vi 1)),(30,.any)] fun AO cS=>?_)
 cbv
 refine jv (nh hI (by decide)) ?_;cbv
 refine⟨_,(by exact⟨by decide,rfl,rfl⟩),?_⟩;cbv
 refine⟨_,Zc (by rfl),?_⟩;cbv
 refine⟨_,apL hI (by rfl) (by rfl),?_⟩;cbv
 refine cS _ (KO [10] [(5,.any),(17,.any),(29,(vi 2)),(30,.any)] fun M6 jE=>?_)
 cbv
 refine jv (nh hI (by decide)) ?_;cbv
 refine⟨_,(by exact⟨by decide,rfl,rfl⟩),?_⟩;cbv
 refine⟨_,Zc (by rfl),?_⟩;cbv
 refine⟨_,apL hI (by rfl) (by rfl),?_⟩;cbv
 refine jE _ (KO [10] [(5,.any),(17,.any),(29,(vi 3)),(30,.any)] fun Qt pW=>?_)
 cbv
 refine jv (nh hI (by decide)) ?_;cbv
 refine⟨_,(by exact⟨by decide,rfl,rfl⟩),?_⟩;cbv
 refine⟨_,Zc (by rfl),?_⟩;cbv
 refine⟨_,apL hI (by rfl) (by rfl),?_⟩;cbv
 refine pW _ (KO [10] [(5,.any),(17,.any),(29,(vi 4)),(30,.any)] fun Qs ox=>?_)
 cbv
 refine jv (nh hI (by decide)) ?_;cbv
 refine⟨_,(by exact⟨by decide,rfl,rfl⟩),?_⟩;cbv
 refine⟨_,Zc (by rfl),?_⟩;cbv
 refine⟨_,apL hI (by rfl) (by rfl),?_⟩;cbv
 refine ox _ (KO [10] [(5,.any),(17,.any),(29,(vi 5)),(30,.any)] fun Vi rp=>?_)
 cbv
 refine eS (iB hI (by decide)) ?_;cbv
 refine lp h (fun(l3,z4,z5)=>[(7,(vi z5)),(27,.any),(28,.any),(29,.any),(30,.any),(39,(vi z4))]) (fun(l3,z4,z5)=>[(6,.box [(.sl r (M.map (aq M r) l3))])]) fun Rm7 m7 vo st h=>?_
 obtain⟨l3,z4,z5⟩:=st
 dsimp only[yP]at h
 cbv
 refine si h (fun h=>?_) fun h=>by cbv;cases h;exact fin
 as_aux_lemma=>
  cbv
  refine⟨5,Tb hI rfl,?_⟩;cbv
  refine iu 12 (fun Rm8 D2=>?_);cbv
  refine jv (nh hI (by decide)) ?_;cbv
  refine⟨_,(by exact⟨by decide,rfl,rfl⟩),?_⟩;cbv
  refine ae h fun y6 wE h=>⟨_,_,_,us hc (tA hI hM wE),?_⟩;cbv
  refine D2 _ (KO [] [(5,.any),(17,.any),(27,.any),(28,.any),(29,.any),(30,.any),(40,.any),(44,(vi 1)),(45,.any)] fun Rm9 TT=>?_)
  cbv
  refine jv (nh hI (by decide)) ?_;cbv
  refine⟨_,(by exact⟨by decide,rfl,rfl⟩),?_⟩;cbv
  refine ae h fun y7 Hj h=>⟨_,_,_,us hc (tz hI hM Hj),?_⟩;cbv
  refine TT _ (KO [] [(5,.any),(17,.any),(27,.any),(28,.any),(29,.any),(30,.any),(40,.any),(44,(vi 2)),(45,.any)] fun akM TU=>?_)
  cbv
  refine jv (nh hI (by decide)) ?_;cbv
  refine⟨_,(by exact⟨by decide,rfl,rfl⟩),?_⟩;cbv
  refine ae h fun y8 O1 h=>⟨_,_,_,us hc (tw hI hM O1),?_⟩;cbv
  refine TU _ (KO [] [(5,.any),(17,.any),(27,.any),(28,.any),(29,.any),(30,.any),(40,.any),(44,(vi 3)),(45,.any)] fun Rm11 ajO=>?_)
  cbv
  refine jv (nh hI (by decide)) ?_;cbv
  refine⟨_,(by exact⟨by decide,rfl,rfl⟩),?_⟩;cbv
  refine ae h fun y9 Hi h=>⟨_,_,_,us hc (tu hI hM Hi),?_⟩;cbv
  refine ajO _ (KO [] [(5,.any),(17,.any),(27,.any),(28,.any),(29,.any),(30,.any),(40,.any),(44,(vi 4)),(45,.any)] fun Rm12 ajN=>?_)
  cbv
  refine jv (nh hI (by decide)) ?_;cbv
  refine⟨_,(by exact⟨by decide,rfl,rfl⟩),?_⟩;cbv
  refine ae h fun qT nc h=>⟨_,_,_,us hc (tq hI hM nc),?_⟩;cbv
  refine ajN _ (KO [] [(5,.any),(17,.any),(27,.any),(28,.any),(29,.any),(30,.any),(40,.any),(44,(vi 5)),(45,.any)] fun Rm13 hRm13=>?_)
  cbv
  refine eS (iB hI (by decide)) ?_;cbv
  refine ae h fun rJ rU h=>⟨_,_,_,us hc (bq hI hM rU),?_⟩;cbv
  refine si h (fun h=>by cbv;cases h;exact fin) fun h=>?_
  cbv
  exact bN (vo _ _ h)
 include hI hM
theorem rv{a0:ai}{a1:Int}{v:ai}(h:jc I M n a0 a1=some v):
  bQ 48 [(.agg (aX M r a0)),(vi a1)] (.agg (aX M r v)) g nx:=by
 refine cC func48 c48 r abB afL [] 86 ntmps48 [.cell 4 24] hI fun call hc=>?_
 cbv
 refine lp h (fun(l1,z2)=>[(6,(vi z2))]) (fun(l1,z2)=>[(5,.box [(.gs r (.c 5 0) (M.map (aq M r) l1))])]) fun jJ m1 aQ st h=>?_
 obtain⟨l1,z2⟩:=st
 dsimp only[lQ]at h
 cbv
 refine letE h fun n3 WX h=>⟨_,ak hI hM WX,?_⟩;cbv
 refine si h (fun h=>?_) fun h=>by cbv;cases h;exact fin
 cbv
 refine ae h fun x4 qh h=>?_
 apply Exists.intro;refine⟨?_,_,rfl,?_⟩
 ·cbv
  refine⟨_,al hM qh rfl,?_⟩;cbv
  refine⟨_,al hM qh rfl,?_⟩;cbv
  refine⟨?_,?_⟩
  ·refine⟨?_,trivial⟩
   refine⟨?_,trivial⟩
   all_goals exact .inl rfl
  refine⟨?_,trivial⟩
  refine⟨?_,trivial⟩
  refine⟨?_,trivial⟩
  all_goals exact .inl rfl
 cbv
 refine lp h (fun(l5,z6)=>[(8,(vi z6))]) (fun(l5,z6)=>[(7,.box [(vs x4.name),(vi x4.arity),(.gs r (.c 7 2) (M.map (az M r) l5))])]) fun AO m2 cS st h=>?_
 obtain⟨l5,z6⟩:=st
 dsimp only[ej]at h
 cbv
 refine ae h fun x7 Bb h=>⟨_,al hM Bb rfl,?_⟩;cbv
 refine letE h fun n8 O6 h=>⟨_,ak hI hM O6,?_⟩;cbv
 refine si h (fun h=>?_) fun h=>?_
 ·as_aux_lemma=>
   cbv
   refine⟨_,al hM Bb rfl,?_⟩;cbv
   refine ae h fun x9 WT h=>⟨_,al hM WT rfl,?_⟩;cbv
   refine si h (fun h=>?_) fun h=>?_
   ·cbv
    refine ae h fun qT nc h=>⟨_,_,_,us hc (AF hI hM nc),?_⟩;cbv
    refine⟨_,bJ (enc:=(az M r)) (x:=qT) hM (ah _) rfl,?_⟩;cbv
    refine ae h fun IB L7 h=>⟨_,aw (enc:=(az M r)) hI hM L7 (fun _=>rfl) rfl (fun _=>rfl),?_⟩;cbv
    exact bN (cS _ _ h)
   cbv
   refine si h (fun h=>?_) fun h=>?_
   ·cbv
    refine ae h fun CG Dl h=>⟨_,_,_,us hc (B6 hI hM Dl),?_⟩;cbv
    refine⟨_,bJ (enc:=(az M r)) (x:=CG) hM (ah _) rfl,?_⟩;cbv
    refine ae h fun wI L6 h=>⟨_,aw (enc:=(az M r)) hI hM L6 (fun _=>rfl) rfl (fun _=>rfl),?_⟩;cbv
    exact bN (cS _ _ h)
   cbv
   refine si h (fun h=>?_) fun h=>?_
   ·cbv
    refine ae h fun EK Dk h=>⟨_,_,_,us hc (zt hI hM Dk),?_⟩;cbv
    refine⟨_,bJ (enc:=(az M r)) (x:=EK) hM (ah _) rfl,?_⟩;cbv
    refine ae h fun wH Sm h=>⟨_,aw (enc:=(az M r)) hI hM Sm (fun _=>rfl) rfl (fun _=>rfl),?_⟩;cbv
    exact bN (cS _ _ h)
   cbv
   refine si h (fun h=>?_) fun h=>?_
   ·cbv
    refine ae h fun IK LB h=>⟨_,_,_,us hc (zt hI hM LB),?_⟩;cbv
    refine⟨_,bJ (enc:=(az M r)) (x:=IK) hM (ah _) rfl,?_⟩;cbv
    refine ae h fun tT Sl h=>⟨_,aw (enc:=(az M r)) hI hM Sl (fun _=>rfl) rfl (fun _=>rfl),?_⟩;cbv
    exact bN (cS _ _ h)
   cbv
   refine si h (fun h=>?_) fun h=>?_
   ·cbv
    refine ae h fun QC Rn h=>⟨_,_,_,us hc (zu hI hM Rn),?_⟩;cbv
    refine⟨_,bJ (enc:=(az M r)) (x:=QC) hM (ah _) rfl,?_⟩;cbv
    refine ae h fun HP adE h=>⟨_,aw (enc:=(az M r)) hI hM adE (fun _=>rfl) rfl (fun _=>rfl),?_⟩;cbv
    exact bN (cS _ _ h)
   cbv
   refine⟨_,bJ (enc:=(az M r)) (x:=x9) hM (ah _) rfl,?_⟩;cbv
   refine ae h fun Tj L5 h=>⟨_,aw (enc:=(az M r)) hI hM L5 (fun _=>rfl) rfl (fun _=>rfl),?_⟩;cbv
   exact bN (cS _ _ h)
 cbv
 refine⟨_,bJ (enc:=(aq M r)) (x:=(⟨x4.name,x4.arity,l5⟩:aj)) hM (ah _) rfl,?_⟩;cbv
 refine ae h fun xS ani h=>⟨_,aw (enc:=(aq M r)) hI hM ani (fun _=>rfl) rfl (fun _=>rfl),?_⟩;cbv
 exact bN (aQ _ _ h)
end Ab
