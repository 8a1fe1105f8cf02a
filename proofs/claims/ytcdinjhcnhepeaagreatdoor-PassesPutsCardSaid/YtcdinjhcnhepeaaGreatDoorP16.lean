/- PassesPuts holds of every core (no condition): a part of the proof: an abstract interpreter of the code that is proved sound, models of the functions, and laws of these models. -/
import Derived.Test.YtcdinjhcnhepeaaGreatDoorP02
import Derived.Test.YtcdinjhcnhepeaaGreatDoorP03
import Derived.Test.YtcdinjhcnhepeaaGreatDoorP14
import Derived.Test.YtcdinjhcnhepeaaGreatDoorP04
set_option linter.unusedVariables false
set_option linter.unusedSimpArgs false
namespace Ab
open Go Go.Proofs.Tryz
set_option maxHeartbeats 100000000
set_option maxRecDepth 100000
variable{I:Pr}(hI:I=an){M:Md}(hM:M= .an){n nx r s p q u rl:Nat}{g:Nat→Option Ob}
 include hI hM
theorem tC{a0:ai}{a2:List Int}{v:Bool}(h:dT I M n a0 a2=some v)(hg: ∀i,g i=none):
  tI PP true 9 [(.agg (aX M 0 a0)),(.sl 0 [[(.fn (.func 19) [])],[(.fn (.func 20) [])]]),(.sl 0 (M.map ao a2))] g nx fun r1 g1 yT=>Iz r1 (vb v)∧g1=g∧yT=nx:=by
 refine MQ lay mixed func9 (c:=c9) (by kernel_rfl) 0 [] ahq akc [] fQ (bh.cons (X1 0) (sL PP fQ)) (Ip (by kernel_rfl) (cl0 fQ)) 8 (by kernel_rfl) 55 ntmps9 rfl (rs:=[.tmp 6]) (by kernel_rfl) hI fun call hc=>?_
 cbv
 refine ae h fun y1 cR h=>⟨_,_,_,us hc (tD hI hM cR (r:=0)),?_⟩;cbv
 refine ae h fun y2 qX h=>⟨_,_,_,us hc (vz hI hM qX),?_⟩;cbv
 refine⟨2,Tb hI rfl,?_⟩;cbv
 refine iu 12 (fun jJ aQ=>?_);cbv
 refine jv (nh hI (by decide)) ?_;cbv
 refine⟨_,(by exact⟨by decide,rfl,rfl⟩),?_⟩;cbv
 refine si h (fun h=>?_) fun h=>?_
 ·as_aux_lemma=>
   cbv
   refine ae h fun x3 jt h=>?_
   refine ae h fun y4 lC h=>?_
   apply Exists.intro;refine⟨?_,_,rfl,?_⟩
   ·cbv
    refine⟨_,al hM jt rfl,?_⟩;cbv
    refine⟨?_,trivial⟩
    refine⟨_,_,_,us hc (rv hI hM lC),?_⟩;cbv
    refine⟨?_,trivial⟩
    all_goals exact .inl rfl
   cbv
   refine ae h fun y5 Dh h=>⟨_,_,_,us hc (jG hI hM Dh (r:=1000000)),?_⟩;cbv
   refine ae h fun y6 wE h=>⟨_,fun hp=>us hc (bP hI hM (ax wE hp.1)),?_⟩;cbv
   refine si h (fun h=>by cbv;cases h;exact fin) fun h=>?_
   cbv
   refine kn hM ?_;cbv
   refine ae h fun y7 Hj h=>⟨_,_,_,us hc (bP hI hM Hj),?_⟩;cbv
   refine si h (fun h=>by cbv;cases h;exact fin) fun h=>?_
   cbv
   refine aQ _ (KO [11,12] [(20,(vi 1)),(21,.any),(26,.any),(47,.any),(53,.any)] fun AO cS=>?_)
   cbv
   refine jv (nh hI (by decide)) ?_;cbv
   refine⟨_,(by exact⟨by decide,rfl,rfl⟩),?_⟩;cbv
   refine si h (fun h=>?_) fun h=>?_
   ·as_aux_lemma=>
     cbv
     refine ae h fun x8 Rr h=>?_
     refine ae h fun y9 Hi h=>?_
     apply Exists.intro;refine⟨?_,_,rfl,?_⟩
     ·cbv
      refine⟨_,al hM Rr rfl,?_⟩;cbv
      refine⟨?_,trivial⟩
      refine⟨_,_,_,us hc (rv hI hM Hi),?_⟩;cbv
      refine⟨?_,trivial⟩
      all_goals exact .inl rfl
     cbv
     refine ae h fun qT nc h=>⟨_,_,_,us hc (fe hI hM nc (r:=1000000)),?_⟩;cbv
     refine ae h fun rJ rU h=>⟨_,fun hp=>us hc (bP hI hM (ax rU hp.1)),?_⟩;cbv
     refine si h (fun h=>by cbv;cases h;exact fin) fun h=>?_
     cbv
     refine kn hM ?_;cbv
     refine ae h fun CG Dl h=>⟨_,_,_,us hc (bP hI hM Dl),?_⟩;cbv
     refine si h (fun h=>by cbv;cases h;exact fin) fun h=>?_
     cbv
     refine cS _ (KO [11,12] [(20,(vi 2)),(21,.any),(26,.any),(47,.any),(53,.any)] fun M6 jE=>?_)
     cbv
     refine eS (iB hI (by decide)) ?_;cbv
     cbv;cases h;exact fin
   cbv
   refine ae h fun ov pH h=>⟨_,_,_,us hc (fe hI hM pH (r:=1000000)),?_⟩;cbv
   refine ae h fun EK Dk h=>?_
   (refine⟨_,fun hp=>us hc ((bP (r:=0) (p:=1000000) hI hM (ax Dk hp.1)).wk ?_),?_⟩;next=>exact⟨aA _,⟨(aH hM),trivial⟩,trivial⟩)
   cbv
   refine si h (fun h=>by cbv;cases h;exact fin) fun h=>?_
   cbv
   refine kn hM ?_;cbv
   refine ae h fun Ft Dj h=>⟨_,_,_,us hc (bP hI hM Dj),?_⟩;cbv
   refine si h (fun h=>by cbv;cases h;exact fin) fun h=>?_
   cbv
   refine cS _ (KO [11,12] [(9,.any),(20,(vi 2)),(21,.any),(26,.any),(47,.any),(53,.any)] fun Qt pW=>?_)
   cbv
   refine eS (iB hI (by decide)) ?_;cbv
   cbv;cases h;exact fin
 cbv
 refine ae h fun IK LB h=>⟨_,_,_,us hc (jG hI hM LB (r:=1000000)),?_⟩;cbv
 refine ae h fun y17 acj h=>?_
 (refine⟨_,fun hp=>us hc ((bP (r:=0) (p:=1000000) hI hM (ax acj hp.1)).wk ?_),?_⟩;next=>exact⟨aA _,⟨(aH hM),trivial⟩,trivial⟩)
 cbv
 refine si h (fun h=>by cbv;cases h;exact fin) fun h=>?_
 cbv
 refine kn hM ?_;cbv
 refine ae h fun QC Rn h=>⟨_,_,_,us hc (bP hI hM Rn),?_⟩;cbv
 refine si h (fun h=>by cbv;cases h;exact fin) fun h=>?_
 cbv
 refine aQ _ (KO [11,12] [(9,.any),(20,(vi 1)),(21,.any),(26,.any),(47,.any),(53,.any)] fun Qs ox=>?_)
 cbv
 refine jv (nh hI (by decide)) ?_;cbv
 refine⟨_,(by exact⟨by decide,rfl,rfl⟩),?_⟩;cbv
 refine si h (fun h=>?_) fun h=>?_
 ·as_aux_lemma=>
   cbv
   refine ae h fun Fv wF h=>?_
   refine ae h fun Qa LA h=>?_
   apply Exists.intro;refine⟨?_,_,rfl,?_⟩
   ·cbv
    refine⟨_,al hM wF rfl,?_⟩;cbv
    refine⟨?_,trivial⟩
    refine⟨_,_,_,us hc (rv hI hM LA),?_⟩;cbv
    refine⟨?_,trivial⟩
    all_goals exact .inl rfl
   cbv
   refine ae h fun Vn aci h=>⟨_,_,_,us hc (fe hI hM aci (r:=1000000)),?_⟩;cbv
   refine ae h fun UW Rm h=>⟨_,fun hp=>us hc (bP hI hM (ax Rm hp.1)),?_⟩;cbv
   refine si h (fun h=>by cbv;cases h;exact fin) fun h=>?_
   cbv
   refine kn hM ?_;cbv
   refine ae h fun y23 ach h=>⟨_,_,_,us hc (bP hI hM ach),?_⟩;cbv
   refine si h (fun h=>by cbv;cases h;exact fin) fun h=>?_
   cbv
   refine ox _ (KO [11,12] [(20,(vi 2)),(21,.any),(26,.any),(47,.any),(53,.any)] fun Vi rp=>?_)
   cbv
   refine eS (iB hI (by decide)) ?_;cbv
   cbv;cases h;exact fin
 cbv
 refine ae h fun Zn acg h=>⟨_,_,_,us hc (fe hI hM acg (r:=1000000)),?_⟩;cbv
 refine ae h fun Vm Rl h=>?_
 (refine⟨_,fun hp=>us hc ((bP (r:=0) (p:=1000000) hI hM (ax Rl hp.1)).wk ?_),?_⟩;next=>exact⟨aA _,⟨(aH hM),trivial⟩,trivial⟩)
 cbv
 refine si h (fun h=>by cbv;cases h;exact fin) fun h=>?_
 cbv
 refine kn hM ?_;cbv
 refine ae h fun y26 acf h=>⟨_,_,_,us hc (bP hI hM acf),?_⟩;cbv
 refine si h (fun h=>by cbv;cases h;exact fin) fun h=>?_
 cbv
 refine ox _ (KO [11,12] [(9,.any),(20,(vi 2)),(21,.any),(26,.any),(47,.any),(53,.any)] fun Rm7 vo=>?_)
 cbv
 refine eS (iB hI (by decide)) ?_;cbv
 cbv;cases h;exact fin
theorem oe{a0:ai}{a2:List Int}{v:Bool}(h:dT I M n a0 a2=some v):
  bQ 9 [(.agg (aX M 0 a0)),(.sl 0 [[(.fn (.func 19) [])],[(.fn (.func 20) [])]]),(.sl 0 (M.map ao a2))] (vb v) g nx:=
 ⟨enters func9 (c:=c9) (by kernel_rfl) (by kernel_rfl),tI.lift (fun g hg nx=>tC hI hM h hg) (fun r hr=>by
  simp only[An,ri,aX,and_true]
  have h0:(0:Nat)≠r:=by omega
  refine⟨⟨h0,xI hM h0 _⟩,⟨h0,?_⟩,h0,DH hM _⟩
  simp[mI,An,ri]) g nx⟩
end Ab
