/- PassesDrops holds of every core (no condition): a part of the proof: an abstract interpreter of the code that is proved sound, models of the functions, and laws of these models. -/
import Derived.Test.YtcdinjhcnhepeaaGreatDoorD02
import Derived.Test.YtcdinjhcnhepeaaGreatDoorD03
import Derived.Test.YtcdinjhcnhepeaaGreatDoorD11
import Derived.Test.YtcdinjhcnhepeaaGreatDoorD07
import Derived.Test.YtcdinjhcnhepeaaGreatDoorD10
import Derived.Test.YtcdinjhcnhepeaaGreatDoorD04
set_option linter.unusedVariables false
set_option linter.unusedSimpArgs false
namespace Ab
open Go Go.Proofs.Tryz
set_option maxHeartbeats 100000000
set_option maxRecDepth 100000
variable{I:Pr}(hI:I=al){M:Md}(hM:M= .al){n nx r s p q u rl:Nat}{g:Nat→Option Ob}
 include hI hM
theorem uy{a0:ah}{a2:List Int}{v:Bool}(h:fh I M n a0 a2=some v)(hg: ∀i,g i=none):
  uE PP true 9 [(.agg (ba M 0 a0)),(.sl 0 [[(.fn (.func 10) [])],[(.fn (.func 11) [])],[(.fn (.func 12) [])]]),(.sl 0 (M.map an a2))] g nx fun r1 g1 zb=>I0 r1 (vb v)∧g1=g∧zb=nx:=by
 refine Ny lay mixed func9 (c:=c9) (by kernel_rfl) 0 [] ahM aku [] fD (bk.cons (Yo 0) (tF PP fD)) (IM (by kernel_rfl) (cl0 fD)) 8 (by kernel_rfl) 55 ntmps9 rfl (rs:=[.tmp 6]) (by kernel_rfl) hI fun call hc=>?_
 cbv
 refine ab h fun y1 cN h=>⟨_,_,_,us hc (zL hI hM cN (r:=0)),?_⟩;cbv
 refine ab h fun y2 rT h=>⟨_,_,_,us hc (Er hI hM rT),?_⟩;cbv
 refine⟨3,TN hI rfl,?_⟩;cbv
 refine ic 12 (fun ju aS=>?_);cbv
 refine e9 (jk hI (by decide)) ?_;cbv
 refine⟨_,(by exact⟨by decide,rfl,rfl⟩),?_⟩;cbv
 refine si h (fun h=>?_) fun h=>?_
 ·as_aux_lemma=>
   cbv
   refine ab h fun x3 iJ h=>?_
   refine ab h fun y4 lb h=>?_
   apply Exists.intro;refine⟨?_,_,rfl,?_⟩
   ·cbv
    refine⟨_,ai hM iJ rfl,?_⟩;cbv
    refine⟨?_,trivial⟩
    refine⟨_,_,_,us hc (fy hI hM lb),?_⟩;cbv
    refine⟨?_,trivial⟩
    all_goals exact .inl rfl
   cbv
   refine ab h fun y5 HG h=>⟨_,_,_,us hc (mN hI hM HG (r:=1000000)),?_⟩;cbv
   refine ab h fun y6 yT h=>⟨_,fun hp=>us hc (aQ hI hM (aw yT hp.1)),?_⟩;cbv
   refine si h (fun h=>by cbv;cases h;exact fin) fun h=>?_
   cbv
   refine kn hM ?_;cbv
   refine ab h fun y7 JL h=>⟨_,_,_,us hc (aQ hI hM JL),?_⟩;cbv
   refine si h (fun h=>by cbv;cases h;exact fin) fun h=>?_
   cbv
   refine aS _ (CS [11,12] [(20,(vi 1)),(21,.any),(26,.any),(47,.any),(53,.any)] fun Bc cI=>?_)
   cbv
   refine e9 (jk hI (by decide)) ?_;cbv
   refine⟨_,(by exact⟨by decide,rfl,rfl⟩),?_⟩;cbv
   refine si h (fun h=>?_) fun h=>?_
   ·as_aux_lemma=>
     cbv
     refine ab h fun x8 R3 h=>?_
     refine ab h fun y9 JK h=>?_
     apply Exists.intro;refine⟨?_,_,rfl,?_⟩
     ·cbv
      refine⟨_,ai hM R3 rfl,?_⟩;cbv
      refine⟨?_,trivial⟩
      refine⟨_,_,_,us hc (fy hI hM JK),?_⟩;cbv
      refine⟨?_,trivial⟩
      all_goals exact .inl rfl
     cbv
     refine ab h fun qO oT h=>⟨_,_,_,us hc (hD hI hM oT (r:=1000000)),?_⟩;cbv
     refine ab h fun sm uQ h=>⟨_,fun hp=>us hc (aQ hI hM (aw uQ hp.1)),?_⟩;cbv
     refine si h (fun h=>by cbv;cases h;exact fin) fun h=>?_
     cbv
     refine kn hM ?_;cbv
     refine ab h fun CJ HM h=>⟨_,_,_,us hc (aQ hI hM HM),?_⟩;cbv
     refine si h (fun h=>by cbv;cases h;exact fin) fun h=>?_
     cbv
     refine cI _ (CS [11,12] [(20,(vi 2)),(21,.any),(26,.any),(47,.any),(53,.any)] fun NJ iI=>?_)
     cbv
     refine e9 (jk hI (by decide)) ?_;cbv
     refine⟨_,(by exact⟨by decide,rfl,rfl⟩),?_⟩;cbv
     refine si h (fun h=>?_) fun h=>?_
     ·as_aux_lemma=>
       cbv
       refine ab h fun Bi xe h=>?_
       refine ab h fun E7 HL h=>?_
       apply Exists.intro;refine⟨?_,_,rfl,?_⟩
       ·cbv
        refine⟨_,ai hM xe rfl,?_⟩;cbv
        refine⟨?_,trivial⟩
        refine⟨_,_,_,us hc (fy hI hM HL),?_⟩;cbv
        refine⟨?_,trivial⟩
        all_goals exact .inl rfl
       cbv
       refine ab h fun Da HK h=>⟨_,_,_,us hc (cf hI hM HK (r:=1000000)),?_⟩;cbv
       refine ab h fun GY Ml h=>⟨_,fun hp=>us hc (aQ hI hM (aw Ml hp.1)),?_⟩;cbv
       refine si h (fun h=>by cbv;cases h;exact fin) fun h=>?_
       cbv
       refine kn hM ?_;cbv
       refine ab h fun y17 acM h=>⟨_,_,_,us hc (aQ hI hM acM),?_⟩;cbv
       refine si h (fun h=>by cbv;cases h;exact fin) fun h=>?_
       cbv
       refine iI _ (CS [11,12] [(20,(vi 3)),(21,.any),(26,.any),(47,.any),(53,.any)] fun Q5 qC=>?_)
       cbv
       refine dk (eS hI (by decide)) ?_;cbv
       cbv;cases h;exact fin
     cbv
     refine ab h fun LF RX h=>⟨_,_,_,us hc (cf hI hM RX (r:=1000000)),?_⟩;cbv
     refine ab h fun y19 acL h=>?_
     (refine⟨_,fun hp=>us hc ((aQ (r:=0) (p:=1000000) hI hM (aw acL hp.1)).wk ?_),?_⟩;next=>exact⟨ay _,⟨(aE hM),trivial⟩,trivial⟩)
     cbv
     refine si h (fun h=>by cbv;cases h;exact fin) fun h=>?_
     cbv
     refine kn hM ?_;cbv
     refine ab h fun NT Mk h=>⟨_,_,_,us hc (aQ hI hM Mk),?_⟩;cbv
     refine si h (fun h=>by cbv;cases h;exact fin) fun h=>?_
     cbv
     refine iI _ (CS [11,12] [(9,.any),(20,(vi 3)),(21,.any),(26,.any),(47,.any),(53,.any)] fun Q4 qB=>?_)
     cbv
     refine dk (eS hI (by decide)) ?_;cbv
     cbv;cases h;exact fin
   cbv
   refine ab h fun Pk acK h=>⟨_,_,_,us hc (hD hI hM acK (r:=1000000)),?_⟩;cbv
   refine ab h fun QN RW h=>?_
   (refine⟨_,fun hp=>us hc ((aQ (r:=0) (p:=1000000) hI hM (aw RW hp.1)).wk ?_),?_⟩;next=>exact⟨ay _,⟨(aE hM),trivial⟩,trivial⟩)
   cbv
   refine si h (fun h=>by cbv;cases h;exact fin) fun h=>?_
   cbv
   refine kn hM ?_;cbv
   refine ab h fun ZO acJ h=>⟨_,_,_,us hc (aQ hI hM acJ),?_⟩;cbv
   refine si h (fun h=>by cbv;cases h;exact fin) fun h=>?_
   cbv
   refine cI _ (CS [11,12] [(9,.any),(20,(vi 2)),(21,.any),(26,.any),(47,.any),(53,.any)] fun VL qA=>?_)
   cbv
   refine e9 (jk hI (by decide)) ?_;cbv
   refine⟨_,(by exact⟨by decide,rfl,rfl⟩),?_⟩;cbv
   refine si h (fun h=>?_) fun h=>?_
   ·as_aux_lemma=>
     cbv
     refine ab h fun FT Sa h=>?_
     refine ab h fun Rc RV h=>?_
     apply Exists.intro;refine⟨?_,_,rfl,?_⟩
     ·cbv
      refine⟨_,ai hM Sa rfl,?_⟩;cbv
      refine⟨?_,trivial⟩
      refine⟨_,_,_,us hc (fy hI hM RV),?_⟩;cbv
      refine⟨?_,trivial⟩
      all_goals exact .inl rfl
     cbv
     refine ab h fun VQ acI h=>⟨_,_,_,us hc (cf hI hM acI (r:=1000000)),?_⟩;cbv
     refine ab h fun y27 acH h=>⟨_,fun hp=>us hc (aQ hI hM (aw acH hp.1)),?_⟩;cbv
     refine si h (fun h=>by cbv;cases h;exact fin) fun h=>?_
     cbv
     refine kn hM ?_;cbv
     refine ab h fun NS PN h=>⟨_,_,_,us hc (aQ hI hM PN),?_⟩;cbv
     refine si h (fun h=>by cbv;cases h;exact fin) fun h=>?_
     cbv
     refine qA _ (CS [11,12] [(20,(vi 3)),(21,.any),(26,.any),(47,.any),(53,.any)] fun Rm7 vX=>?_)
     cbv
     refine dk (eS hI (by decide)) ?_;cbv
     cbv;cases h;exact fin
   cbv
   refine ab h fun Vp RU h=>⟨_,_,_,us hc (cf hI hM RU (r:=1000000)),?_⟩;cbv
   refine ab h fun EZ DE h=>?_
   (refine⟨_,fun hp=>us hc ((aQ (r:=0) (p:=1000000) hI hM (aw DE hp.1)).wk ?_),?_⟩;next=>exact⟨ay _,⟨(aE hM),trivial⟩,trivial⟩)
   cbv
   refine si h (fun h=>by cbv;cases h;exact fin) fun h=>?_
   cbv
   refine kn hM ?_;cbv
   refine ab h fun Bg vv h=>⟨_,_,_,us hc (aQ hI hM vv),?_⟩;cbv
   refine si h (fun h=>by cbv;cases h;exact fin) fun h=>?_
   as_aux_lemma=>
    cbv
    refine qA _ (CS [11,12] [(9,.any),(20,(vi 3)),(21,.any),(26,.any),(47,.any),(53,.any)] fun Rm8 Co=>?_)
    cbv
    refine dk (eS hI (by decide)) ?_;cbv
    cbv;cases h;exact fin
 cbv
 refine ab h fun Rb HI h=>⟨_,_,_,us hc (mN hI hM HI (r:=1000000)),?_⟩;cbv
 refine ab h fun uZ Au h=>?_
 (refine⟨_,fun hp=>us hc ((aQ (r:=0) (p:=1000000) hI hM (aw Au hp.1)).wk ?_),?_⟩;next=>exact⟨ay _,⟨(aE hM),trivial⟩,trivial⟩)
 cbv
 refine si h (fun h=>by cbv;cases h;exact fin) fun h=>?_
 cbv
 refine kn hM ?_;cbv
 refine ab h fun Vo HH h=>⟨_,_,_,us hc (aQ hI hM HH),?_⟩;cbv
 refine si h (fun h=>by cbv;cases h;exact fin) fun h=>?_
 cbv
 refine aS _ (CS [11,12] [(9,.any),(20,(vi 1)),(21,.any),(26,.any),(47,.any),(53,.any)] fun Rm9 KQ=>?_)
 cbv
 refine e9 (jk hI (by decide)) ?_;cbv
 refine⟨_,(by exact⟨by decide,rfl,rfl⟩),?_⟩;cbv
 refine si h (fun h=>?_) fun h=>?_
 ·as_aux_lemma=>
   cbv
   refine ab h fun oP Av h=>?_
   refine ab h fun y36 amD h=>?_
   apply Exists.intro;refine⟨?_,_,rfl,?_⟩
   ·cbv
    refine⟨_,ai hM Av rfl,?_⟩;cbv
    refine⟨?_,trivial⟩
    refine⟨_,_,_,us hc (fy hI hM amD),?_⟩;cbv
    refine⟨?_,trivial⟩
    all_goals exact .inl rfl
   cbv
   refine ab h fun ZN acG h=>⟨_,_,_,us hc (hD hI hM acG (r:=1000000)),?_⟩;cbv
   refine ab h fun Vn Mj h=>⟨_,fun hp=>us hc (aQ hI hM (aw Mj hp.1)),?_⟩;cbv
   refine si h (fun h=>by cbv;cases h;exact fin) fun h=>?_
   cbv
   refine kn hM ?_;cbv
   refine ab h fun NR Mi h=>⟨_,_,_,us hc (aQ hI hM Mi),?_⟩;cbv
   refine si h (fun h=>by cbv;cases h;exact fin) fun h=>?_
   cbv
   refine KQ _ (CS [11,12] [(20,(vi 2)),(21,.any),(26,.any),(47,.any),(53,.any)] fun agI GC=>?_)
   cbv
   refine e9 (jk hI (by decide)) ?_;cbv
   refine⟨_,(by exact⟨by decide,rfl,rfl⟩),?_⟩;cbv
   refine si h (fun h=>?_) fun h=>?_
   ·as_aux_lemma=>
     cbv
     refine ab h fun x40 ac3 h=>?_
     refine ab h fun LD Mh h=>?_
     apply Exists.intro;refine⟨?_,_,rfl,?_⟩
     ·cbv
      refine⟨_,ai hM ac3 rfl,?_⟩;cbv
      refine⟨?_,trivial⟩
      refine⟨_,_,_,us hc (fy hI hM Mh),?_⟩;cbv
      refine⟨?_,trivial⟩
      all_goals exact .inl rfl
     cbv
     refine ab h fun QM Mg h=>⟨_,_,_,us hc (cf hI hM Mg (r:=1000000)),?_⟩;cbv
     refine ab h fun y43 acF h=>⟨_,fun hp=>us hc (aQ hI hM (aw acF hp.1)),?_⟩;cbv
     refine si h (fun h=>by cbv;cases h;exact fin) fun h=>?_
     cbv
     refine kn hM ?_;cbv
     refine ab h fun y44 acE h=>⟨_,_,_,us hc (aQ hI hM acE),?_⟩;cbv
     refine si h (fun h=>by cbv;cases h;exact fin) fun h=>?_
     cbv
     refine GC _ (CS [11,12] [(20,(vi 3)),(21,.any),(26,.any),(47,.any),(53,.any)] fun arc aaQ=>?_)
     cbv
     refine dk (eS hI (by decide)) ?_;cbv
     cbv;cases h;exact fin
   cbv
   refine ab h fun ZM acD h=>⟨_,_,_,us hc (cf hI hM acD (r:=1000000)),?_⟩;cbv
   refine ab h fun y46 acC h=>?_
   (refine⟨_,fun hp=>us hc ((aQ (r:=0) (p:=1000000) hI hM (aw acC hp.1)).wk ?_),?_⟩;next=>exact⟨ay _,⟨(aE hM),trivial⟩,trivial⟩)
   cbv
   refine si h (fun h=>by cbv;cases h;exact fin) fun h=>?_
   cbv
   refine kn hM ?_;cbv
   refine ab h fun y47 acB h=>⟨_,_,_,us hc (aQ hI hM acB),?_⟩;cbv
   refine si h (fun h=>by cbv;cases h;exact fin) fun h=>?_
   cbv
   refine GC _ (CS [11,12] [(9,.any),(20,(vi 3)),(21,.any),(26,.any),(47,.any),(53,.any)] fun arb aaP=>?_)
   cbv
   refine dk (eS hI (by decide)) ?_;cbv
   cbv;cases h;exact fin
 cbv
 refine ab h fun ZL acA h=>⟨_,_,_,us hc (hD hI hM acA (r:=1000000)),?_⟩;cbv
 refine ab h fun VP Mf h=>?_
 (refine⟨_,fun hp=>us hc ((aQ (r:=0) (p:=1000000) hI hM (aw Mf hp.1)).wk ?_),?_⟩;next=>exact⟨ay _,⟨(aE hM),trivial⟩,trivial⟩)
 cbv
 refine si h (fun h=>by cbv;cases h;exact fin) fun h=>?_
 cbv
 refine kn hM ?_;cbv
 refine ab h fun QL RT h=>⟨_,_,_,us hc (aQ hI hM RT),?_⟩;cbv
 refine si h (fun h=>by cbv;cases h;exact fin) fun h=>?_
 cbv
 refine KQ _ (CS [11,12] [(9,.any),(20,(vi 2)),(21,.any),(26,.any),(47,.any),(53,.any)] fun ara Us=>?_)
 cbv
 refine e9 (jk hI (by decide)) ?_;cbv
 refine⟨_,(by exact⟨by decide,rfl,rfl⟩),?_⟩;cbv
 refine si h (fun h=>?_) fun h=>?_
 ·as_aux_lemma=>
   cbv
   refine ab h fun x51 amN h=>?_
   refine ab h fun Ja JN h=>?_
   apply Exists.intro;refine⟨?_,_,rfl,?_⟩
   ·cbv
    refine⟨_,ai hM amN rfl,?_⟩;cbv
    refine⟨?_,trivial⟩
    refine⟨_,_,_,us hc (fy hI hM JN),?_⟩;cbv
    refine⟨?_,trivial⟩
    all_goals exact .inl rfl
   cbv
   refine ab h fun VO Xi h=>⟨_,_,_,us hc (cf hI hM Xi (r:=1000000)),?_⟩;cbv
   refine ab h fun Pj JM h=>⟨_,fun hp=>us hc (aQ hI hM (aw JM hp.1)),?_⟩;cbv
   refine si h (fun h=>by cbv;cases h;exact fin) fun h=>?_
   cbv
   refine kn hM ?_;cbv
   refine ab h fun y55 amC h=>⟨_,_,_,us hc (aQ hI hM amC),?_⟩;cbv
   refine si h (fun h=>by cbv;cases h;exact fin) fun h=>?_
   cbv
   refine Us _ (CS [11,12] [(20,(vi 3)),(21,.any),(26,.any),(47,.any),(53,.any)] fun Rm14 hRm14=>?_)
   cbv
   refine dk (eS hI (by decide)) ?_;cbv
   cbv;cases h;exact fin
 cbv
 refine ab h fun y56 amB h=>⟨_,_,_,us hc (cf hI hM amB (r:=1000000)),?_⟩;cbv
 refine ab h fun y57 RS h=>?_
 (refine⟨_,fun hp=>us hc ((aQ (r:=0) (p:=1000000) hI hM (aw RS hp.1)).wk ?_),?_⟩;next=>exact⟨ay _,⟨(aE hM),trivial⟩,trivial⟩)
 cbv
 refine si h (fun h=>by cbv;cases h;exact fin) fun h=>?_
 as_aux_lemma=>
  cbv
  refine kn hM ?_;cbv
  refine ab h fun y58 Xh h=>⟨_,_,_,us hc (aQ hI hM Xh),?_⟩;cbv
  refine si h (fun h=>by cbv;cases h;exact fin) fun h=>?_
  cbv
  refine Us _ (CS [11,12] [(9,.any),(20,(vi 3)),(21,.any),(26,.any),(47,.any),(53,.any)] fun Rm15 hRm15=>?_)
  cbv
  refine dk (eS hI (by decide)) ?_;cbv
  cbv;cases h;exact fin
theorem v9{a0:ah}{a2:List Int}{v:Bool}(h:fh I M n a0 a2=some v):
  bO 9 [(.agg (ba M 0 a0)),(.sl 0 [[(.fn (.func 10) [])],[(.fn (.func 11) [])],[(.fn (.func 12) [])]]),(.sl 0 (M.map an a2))] (vb v) g nx:=
 ⟨enters func9 (c:=c9) (by kernel_rfl) (by kernel_rfl),uE.lift (fun g hg nx=>uy hI hM h hg) (fun r hr=>by
  simp only[AF,rY,ba,and_true]
  have h0:(0:Nat)≠r:=by omega
  refine⟨⟨h0,xY hM h0 _⟩,⟨h0,?_⟩,h0,DX hM _⟩
  simp[nh,AF,rY]) g nx⟩
end Ab
