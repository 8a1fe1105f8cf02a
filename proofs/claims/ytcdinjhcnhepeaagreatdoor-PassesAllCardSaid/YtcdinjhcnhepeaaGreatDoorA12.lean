/- PassesAll holds of all pairs of cores (no condition): a part of the proof: an abstract interpreter of the code that is proved sound, models of the functions, and laws of these models. -/
import Derived.Test.YtcdinjhcnhepeaaGreatDoorA02
import Derived.Test.YtcdinjhcnhepeaaGreatDoorA04
import Derived.Test.YtcdinjhcnhepeaaGreatDoorA04c
import Derived.Test.YtcdinjhcnhepeaaGreatDoorA04b
import Derived.Test.YtcdinjhcnhepeaaGreatDoorA06
import Derived.Test.YtcdinjhcnhepeaaGreatDoorA07
import Derived.Test.YtcdinjhcnhepeaaGreatDoorA08
import Derived.Test.YtcdinjhcnhepeaaGreatDoorA09
import Derived.Test.YtcdinjhcnhepeaaGreatDoorA03
import Derived.Test.YtcdinjhcnhepeaaGreatDoorA11
set_option linter.unusedVariables false
set_option linter.unusedSimpArgs false
set_option linter.unusedSectionVars false
namespace Ab
open Go Go.Proofs.Tryz
set_option maxHeartbeats 100000000
set_option maxRecDepth 100000
variable{I:Pr}(hI:I=ak){M:Md}(hM:M= .ak){n nx r s p q u rl:Nat}{g:Nat→Option Ob}
 include hI hM
theorem wA{a1:ai}{v:ai}(h:lM I M n a1=some v):
  cj 78 [(.agg [(.fn (.func 12) [])]),(.agg (bd M r a1))] (.agg (bd M r v)) g nx:=by
 refine cK func78 c78 r Fs GY [] 15 ntmps78 [.cell 4 24] hI fun call hc=>?_;cbv;refine ah h fun y1 c4 h=>⟨_,_,_,us hc (vq hI hM c4 (r:=r)),?_⟩;cbv;cbv;cases h;exact fin
 include hI hM
theorem vr{a0:ai}{v:ai×Int}(h:mm I M n a0=some v):
  cj 19 [(.agg (bd M p a0))] (.gY [(.agg (bd M r v.1)),(vi v.2)]) g nx:=by
 refine cK func19 c19 r aga akr [] 14 ntmps19 [.cell 2 24,.tmp 3] hI fun call hc=>?_;cbv;refine ah h fun y1 c4 h=>⟨_,_,_,us hc (db hI hM c4),?_⟩;cbv;refine si h (fun h=>by cbv;cases h;exact fin) fun h=>?_;cbv;refine ah h fun y2 sS h=>⟨_,_,_,us hc (ya hI hM sS (r:=r)),?_⟩;cbv;cbv;cases h;exact fin
 include hI hM
theorem wz{a1:ai}{v:ai}(h:lL I M n a1=some v):
  cj 78 [(.agg [(.fn (.func 19) [])]),(.agg (bd M r a1))] (.agg (bd M r v)) g nx:=by
 refine cK func78 c78 r Fs GY [] 15 ntmps78 [.cell 4 24] hI fun call hc=>?_;cbv;refine ah h fun y1 c4 h=>⟨_,_,_,us hc (vr hI hM c4 (r:=r)),?_⟩;cbv;cbv;cases h;exact fin
 include hI hM
theorem wT{a0:ai}{v:ai×Int}(h:ou I M n a0=some v):
  cj 20 [(.agg (bd M p a0))] (.gY [(.agg (bd M r v.1)),(vi v.2)]) g nx:=by
 refine cK func20 c20 r af9 akq [] 14 ntmps20 [.cell 2 24,.tmp 3] hI fun call hc=>?_;cbv;refine ah h fun y1 c4 h=>⟨_,_,_,us hc (db hI hM c4),?_⟩;cbv;refine si h (fun h=>by cbv;cases h;exact fin) fun h=>?_;cbv;refine ah h fun y2 sS h=>⟨_,_,_,us hc (xZ hI hM sS (r:=r)),?_⟩;cbv;cbv;cases h;exact fin
 include hI hM
theorem wy{a1:ai}{v:ai}(h:lK I M n a1=some v):
  cj 78 [(.agg [(.fn (.func 20) [])]),(.agg (bd M r a1))] (.agg (bd M r v)) g nx:=by
 refine cK func78 c78 r Fs GY [] 15 ntmps78 [.cell 4 24] hI fun call hc=>?_;cbv;refine ah h fun y1 c4 h=>⟨_,_,_,us hc (wT hI hM c4 (r:=r)),?_⟩;cbv;cbv;cases h;exact fin
 include hI hM
theorem wx{a1:ai}{v:ai}(h:lJ I M n a1=some v):
  cj 78 [(.agg [(.fn (.func 11) [])]),(.agg (bd M r a1))] (.agg (bd M r v)) g nx:=by
 refine cK func78 c78 r Fs GY [] 15 ntmps78 [.cell 4 24] hI fun call hc=>?_;cbv;refine ah h fun y1 c4 h=>⟨_,_,_,us hc (Ep hI hM c4 (r:=r)),?_⟩;cbv;cbv;cases h;exact fin
 include hI hM
theorem uh{a0:ai}{v:ai×Int×Int}(h:pz I M n a0=some v):
  cj 23 [(.agg (bd M p a0))] (.gY [(.agg (bd M r v.1)),(vi v.2.1),(vi v.2.2)]) g nx:=by
 refine cK func23 c23 r af6 akn [] 61 ntmps23 [.cell 2 24,.tmp 3,.tmp 4] hI fun call hc=>?_;cbv;refine ah h fun y1 c4 h=>⟨_,_,_,us hc (db hI hM c4),?_⟩;cbv;refine si h (fun h=>by cbv;cases h;exact fin) fun h=>?_;cbv;refine ah h fun y2 sS h=>⟨_,_,_,us hc (HV hI hM sS (r:=r)),?_⟩;cbv;refine⟨_,blL (by rfl),?_⟩;cbv;refine⟨5,ad6 hI rfl,?_⟩;cbv;refine kU 12 (fun kS aZ=>?_);cbv;refine pQ (ub hI (by decide)) ?_;cbv;refine⟨_,(by exact⟨by decide,rfl,rfl⟩),?_⟩;cbv;refine⟨_,blL (by rfl),?_⟩;cbv;refine⟨_,apL hI (by rfl) (by rfl),?_⟩;cbv;refine aZ _ (Y0 [10] [(5,.any),(17,.any),(29,(vi 1)),(30,.any)] fun Dc dm=>?_);cbv;refine pQ (ub hI (by decide)) ?_;cbv;refine⟨_,(by exact⟨by decide,rfl,rfl⟩),?_⟩;cbv;refine⟨_,blL (by rfl),?_⟩;cbv;refine⟨_,apL hI (by rfl) (by rfl),?_⟩;cbv;refine dm _ (Y0 [10] [(5,.any),(17,.any),(29,(vi 2)),(30,.any)] fun QA kI=>?_);cbv;refine pQ (ub hI (by decide)) ?_;cbv;refine⟨_,(by exact⟨by decide,rfl,rfl⟩),?_⟩;cbv;refine⟨_,blL (by rfl),?_⟩;cbv;refine⟨_,apL hI (by rfl) (by rfl),?_⟩;cbv;refine kI _ (Y0 [10] [(5,.any),(17,.any),(29,(vi 3)),(30,.any)] fun YG sW=>?_);cbv;refine pQ (ub hI (by decide)) ?_;cbv;refine⟨_,(by exact⟨by decide,rfl,rfl⟩),?_⟩;cbv;refine⟨_,blL (by rfl),?_⟩;cbv;refine⟨_,apL hI (by rfl) (by rfl),?_⟩;cbv;refine sW _ (Y0 [10] [(5,.any),(17,.any),(29,(vi 4)),(30,.any)] fun YF sV=>?_);cbv;refine pQ (ub hI (by decide)) ?_;cbv;refine⟨_,(by exact⟨by decide,rfl,rfl⟩),?_⟩;cbv;refine⟨_,blL (by rfl),?_⟩;cbv;refine⟨_,apL hI (by rfl) (by rfl),?_⟩;cbv;refine sV _ (Y0 [10] [(5,.any),(17,.any),(29,(vi 5)),(30,.any)] fun Rm6 vj=>?_);cbv;refine jR (oD hI (by decide)) ?_;cbv;refine lp h (fun(l3,z4,z5)=>[(7,(vi z5)),(27,.any),(28,.any),(29,.any),(30,.any),(39,(vi z4))]) (fun(l3,z4,z5)=>[(6,.box [(.sl r (M.map (aA M r) l3))])]) fun Rm7 m7 zb st h=>?_;obtain⟨l3,z4,z5⟩:=st;dsimp only[ov]at h;cbv;refine si h (fun h=>?_) fun h=>by cbv;cases h;exact fin
 as_aux_lemma=>
  cbv;refine⟨5,ad6 hI rfl,?_⟩;cbv;refine kU 12 (fun Rm8 GG=>?_);cbv;refine pQ (ub hI (by decide)) ?_;cbv;refine⟨_,(by exact⟨by decide,rfl,rfl⟩),?_⟩;cbv;refine ah h fun y6 yW h=>⟨_,_,_,us hc (wA hI hM yW),?_⟩;cbv;refine GG _ (Y0 [] [(5,.any),(17,.any),(27,.any),(28,.any),(29,.any),(30,.any),(40,.any),(44,(vi 1)),(45,.any)] fun Rm9 XL=>?_);cbv;refine pQ (ub hI (by decide)) ?_;cbv;refine⟨_,(by exact⟨by decide,rfl,rfl⟩),?_⟩;cbv;refine ah h fun y7 HA h=>⟨_,_,_,us hc (wz hI hM HA),?_⟩;cbv;refine XL _ (Y0 [] [(5,.any),(17,.any),(27,.any),(28,.any),(29,.any),(30,.any),(40,.any),(44,(vi 2)),(45,.any)] fun apv XM=>?_);cbv;refine pQ (ub hI (by decide)) ?_;cbv;refine⟨_,(by exact⟨by decide,rfl,rfl⟩),?_⟩;cbv;refine ah h fun y8 OT h=>⟨_,_,_,us hc (wy hI hM OT),?_⟩;cbv;refine XM _ (Y0 [] [(5,.any),(17,.any),(27,.any),(28,.any),(29,.any),(30,.any),(40,.any),(44,(vi 3)),(45,.any)] fun Rm11 aov=>?_);cbv;refine pQ (ub hI (by decide)) ?_;cbv;refine⟨_,(by exact⟨by decide,rfl,rfl⟩),?_⟩;cbv;refine ah h fun y9 Mh h=>⟨_,_,_,us hc (wx hI hM Mh),?_⟩;cbv;refine aov _ (Y0 [] [(5,.any),(17,.any),(27,.any),(28,.any),(29,.any),(30,.any),(40,.any),(44,(vi 4)),(45,.any)] fun Rm12 aou=>?_);cbv;refine pQ (ub hI (by decide)) ?_;cbv;refine⟨_,(by exact⟨by decide,rfl,rfl⟩),?_⟩;cbv;refine ah h fun wY tV h=>⟨_,_,_,us hc (wv hI hM tV),?_⟩;cbv;refine aou _ (Y0 [] [(5,.any),(17,.any),(27,.any),(28,.any),(29,.any),(30,.any),(40,.any),(44,(vi 5)),(45,.any)] fun Rm13 hRm13=>?_);cbv;refine jR (oD hI (by decide)) ?_;cbv;refine ah h fun wL zQ h=>⟨_,_,_,us hc (dJ hI hM zQ),?_⟩;cbv;refine si h (fun h=>by cbv;cases h;exact fin) fun h=>?_;cbv;exact b8 (zb _ _ h)
 include hI hM
theorem mz{a0:ai}{a1:Int}{v:ai}(h:ea I M n a0 a1=some v):
  cj 48 [(.agg (bd M r a0)),(vi a1)] (.agg (bd M r v)) g nx:=by
 refine cK func48 c48 r afS aj9 [] 86 ntmps48 [.cell 4 24] hI fun call hc=>?_;cbv;refine lp h (fun(l1,z2)=>[(6,(vi z2))]) (fun(l1,z2)=>[(5,.box [(.gs r (.c 5 0) (M.map (aA M r) l1))])]) fun kS m1 aZ st h=>?_;obtain⟨l1,z2⟩:=st;dsimp only[nW]at h;cbv;refine letE h fun n3 qn3 h=>⟨_,an hI hM qn3,?_⟩;cbv;refine si h (fun h=>?_) fun h=>by cbv;cases h;exact fin
 cbv;refine ah h fun x4 ur h=>?_;apply Exists.intro;refine⟨?_,_,rfl,?_⟩
 ·cbv;repeat' first|exact .inl rfl|exact trivial|(refine⟨_,aq hM ur rfl,?_⟩;cbv)|apply And.intro
  all_goals exact bw
 cbv;refine lp h (fun(l5,z6)=>[(8,(vi z6))]) (fun(l5,z6)=>[(7,.box [(vs x4.name),(vi x4.aI),(.gs r (.c 7 2) (M.map (aB M r) l5))])]) fun Dc m2 dm st h=>?_;obtain⟨l5,z6⟩:=st;dsimp only[dh]at h;cbv;refine ah h fun x7 zr h=>⟨_,aq hM zr rfl,?_⟩;cbv;refine letE h fun n8 SQ h=>⟨_,an hI hM SQ,?_⟩;cbv;refine si h (fun h=>?_) fun h=>?_
 ·as_aux_lemma=>
   cbv;refine⟨_,aq hM zr rfl,?_⟩;cbv;refine ah h fun x9 SN h=>⟨_,aq hM SN rfl,?_⟩;cbv;refine si h (fun h=>?_) fun h=>?_
   ·cbv;refine ah h fun wY tV h=>⟨_,_,_,us hc (CW hI hM tV),?_⟩;cbv;refine⟨_,cq (enc:=(aB M r)) (x:=wY) hM (ao _) rfl,?_⟩;cbv;refine ah h fun AD Kj h=>⟨_,ay (enc:=(aB M r)) hI hM Kj (fun _=>rfl) rfl (fun _=>rfl),?_⟩;cbv;exact b8 (dm _ _ h)
   cbv;refine si h (fun h=>?_) fun h=>?_
   ·cbv;refine ah h fun EI FO h=>⟨_,_,_,us hc (En hI hM FO),?_⟩;cbv;refine⟨_,cq (enc:=(aB M r)) (x:=EI) hM (ao _) rfl,?_⟩;cbv;refine ah h fun yY ahU h=>⟨_,ay (enc:=(aB M r)) hI hM ahU (fun _=>rfl) rfl (fun _=>rfl),?_⟩;cbv;exact b8 (dm _ _ h)
   cbv;refine si h (fun h=>?_) fun h=>?_
   ·cbv;refine ah h fun Lz J4 h=>⟨_,_,_,us hc (BB hI hM J4),?_⟩;cbv;refine⟨_,cq (enc:=(aB M r)) (x:=Lz) hM (ao _) rfl,?_⟩;cbv;refine ah h fun yX Wg h=>⟨_,ay (enc:=(aB M r)) hI hM Wg (fun _=>rfl) rfl (fun _=>rfl),?_⟩;cbv;exact b8 (dm _ _ h)
   cbv;refine si h (fun h=>?_) fun h=>?_
   ·cbv;refine ah h fun Ji OW h=>⟨_,_,_,us hc (BB hI hM OW),?_⟩;cbv;refine⟨_,cq (enc:=(aB M r)) (x:=Ji) hM (ao _) rfl,?_⟩;cbv;refine ah h fun ua Po h=>⟨_,ay (enc:=(aB M r)) hI hM Po (fun _=>rfl) rfl (fun _=>rfl),?_⟩;cbv;exact b8 (dm _ _ h)
   cbv;refine si h (fun h=>?_) fun h=>?_
   ·cbv;refine ah h fun Uw Vj h=>⟨_,_,_,us hc (BC hI hM Vj),?_⟩;cbv;refine⟨_,cq (enc:=(aB M r)) (x:=Uw) hM (ao _) rfl,?_⟩;cbv;refine ah h fun KF ahS h=>⟨_,ay (enc:=(aB M r)) hI hM ahS (fun _=>rfl) rfl (fun _=>rfl),?_⟩;cbv;exact b8 (dm _ _ h)
   cbv;refine⟨_,cq (enc:=(aB M r)) (x:=x9) hM (ao _) rfl,?_⟩;cbv;refine ah h fun PO Pn h=>⟨_,ay (enc:=(aB M r)) hI hM Pn (fun _=>rfl) rfl (fun _=>rfl),?_⟩;cbv;exact b8 (dm _ _ h)
 cbv;refine⟨_,cq (enc:=(aA M r)) (x:=(⟨x4.name,x4.aI,l5⟩:aj)) hM (ao _) rfl,?_⟩;cbv;refine ah h fun yI asj h=>⟨_,ay (enc:=(aA M r)) hI hM asj (fun _=>rfl) rfl (fun _=>rfl),?_⟩;cbv;exact b8 (aZ _ _ h)
 include hI hM
theorem KY{a0:ai}{v:ai×Int}(h:Cl I M n a0=some v):
  cj 21 [(.agg (bd M r a0))] (.gY [(.agg (bd M r v.1)),(vi v.2)]) g nx:=by
 refine cK func21 c21 r af8 akp [] 23 ntmps21 [.cell 2 24,.tmp 3] hI fun call hc=>?_;cbv;refine lp h (fun(l1,z2)=>[(4,(vi z2))]) (fun(l1,z2)=>[(1,.box [(.sl r (M.map (aA M r) l1))])]) fun kS m1 aZ st h=>?_;obtain⟨l1,z2⟩:=st;dsimp only[p8]at h;cbv;refine si h (fun h=>?_) fun h=>by cbv;cases h;exact fin
 cbv;refine ah h fun y3 D8 h=>⟨_,_,_,us hc (mz hI hM D8),?_⟩;cbv;refine ah h fun y4 nI h=>⟨_,_,_,us hc (mz hI hM nI),?_⟩;cbv;refine ah h fun y5 HB h=>⟨_,_,_,us hc (mz hI hM HB),?_⟩;cbv;refine ah h fun y6 yW h=>⟨_,_,_,us hc (mz hI hM yW),?_⟩;cbv;refine ah h fun y7 HA h=>⟨_,_,_,us hc (mz hI hM HA),?_⟩;cbv;refine ah h fun y8 OT h=>⟨_,_,_,us hc (gU hI hM OT),?_⟩;cbv;refine si h (fun h=>by cbv;cases h;exact fin) fun h=>?_;cbv;exact b8 (aZ _ _ h)
end Ab
