/- PassesBlocks holds of all cores and names (no condition): a part of the proof: an abstract interpreter of the code that is proved sound, models of the functions, and laws of these models. -/
import Derived.Test.YtcdinjhcnhepeaaGreatDoorB03
import Derived.Test.YtcdinjhcnhepeaaGreatDoorB04
import Derived.Test.YtcdinjhcnhepeaaGreatDoorB09
import Derived.Test.YtcdinjhcnhepeaaGreatDoorB05
import Derived.Test.YtcdinjhcnhepeaaGreatDoorB10
import Derived.Test.YtcdinjhcnhepeaaGreatDoorB11
import Derived.Test.YtcdinjhcnhepeaaGreatDoorB12
import Derived.Test.YtcdinjhcnhepeaaGreatDoorB13
import Derived.Test.YtcdinjhcnhepeaaGreatDoorB15
import Derived.Test.YtcdinjhcnhepeaaGreatDoorB06
import Derived.Test.YtcdinjhcnhepeaaGreatDoorB16
set_option linter.unusedVariables false
set_option linter.unusedSimpArgs false
set_option linter.unusedSectionVars false
namespace Ab
open Go Go.Proofs.Tryz
set_option maxHeartbeats 100000000
set_option maxRecDepth 100000
variable{I:Pr}(hI:I=al){M:Md}(hM:M= .al){n nx r s p q u rl:Nat}{g:Nat→Option Ob}
 include hI hM
theorem rL{a0:List aH}{a1:List aH}{v:Bool}(h:mT I M n a0 a1=some v):
  cv 98 [(.sl r (M.map (bB M r) a0)),(.sl r (M.map (bB M r) a1)),(.fn (.func 96) [])] (vb v) g nx:=by
 refine cS func98 c98 r T7 XT [] 32 ntmps98 [.tmp 6] hI fun call hc=>?_;cbv;refine letE h fun n1 dJ h=>⟨_,an hI hM dJ,?_⟩;cbv;refine letE h fun n2 oC h=>⟨_,an hI hM oC,?_⟩;cbv;refine si h (fun h=>by cbv;cases h;exact fin) fun h=>?_;cbv;refine⟨_,an hI hM dJ,?_⟩;cbv;refine lp h (fun z3=>[(17,(vi z3))]) (fun z3=>[]) fun mK m1 aW z3 h=>?_;dsimp only[lE]at h;cbv;refine si h (fun h=>?_) fun h=>by cbv;cases h;exact fin
 cbv;refine ag h fun x4 vW h=>⟨_,ao hM vW rfl,?_⟩;cbv;refine ag h fun x5 rC h=>⟨_,ao hM rC rfl,?_⟩;cbv;refine ag h fun y6 Ao h=>⟨_,_,_,us hc (Gp hI hM Ao),?_⟩;cbv;refine si h (fun h=>by cbv;cases h;exact fin) fun h=>?_;cbv;exact bY (aW _ _ h)
 include hI hM
theorem A8{a0:ah}{a1:ah}{v:Bool}(h:xq I M n a0 a1=some v):
  cv 97 [(.agg (az M r a0)),(.agg (az M r a1)),(.aR r [(.fn (.func 96) [])] 0)] (vb v) g nx:=by
 refine cS func97 c97 r aeM aja [] 33 ntmps97 [.tmp 5] hI fun call hc=>?_;cbv;refine ag h fun y1 c9 h=>⟨_,fun hp=>us hc (rL hI hM (aD c9 hp.1)),?_⟩;cbv;cbv;cases h;exact fin
 include hI hM
theorem pn{a0:List ah}{a1:List ah}{v:Bool}(h:jZ I M n a0 a1=some v):
  cv 101 [(.sl r (M.map (az M r) a0)),(.sl r (M.map (az M r) a1)),(.fn (.func 97) [(.aR r [(.fn (.func 96) [])] 0)])] (vb v) g nx:=by
 refine cS func101 apf r P6 Q1 [] 32 ntmps101 [.tmp 6] hI fun call hc=>?_;cbv;refine letE h fun n1 dJ h=>⟨_,an hI hM dJ,?_⟩;cbv;refine letE h fun n2 oC h=>⟨_,an hI hM oC,?_⟩;cbv;refine si h (fun h=>by cbv;cases h;exact fin) fun h=>?_;cbv;refine⟨_,an hI hM dJ,?_⟩;cbv;refine lp h (fun z3=>[(17,(vi z3))]) (fun z3=>[]) fun mK m1 aW z3 h=>?_;dsimp only[ja]at h;cbv;refine si h (fun h=>?_) fun h=>by cbv;cases h;exact fin
 cbv;refine ag h fun x4 vW h=>⟨_,ao hM vW rfl,?_⟩;cbv;refine ag h fun x5 rC h=>⟨_,ao hM rC rfl,?_⟩;cbv;refine ag h fun y6 Ao h=>⟨_,_,_,us hc (A8 hI hM Ao),?_⟩;cbv;refine si h (fun h=>by cbv;cases h;exact fin) fun h=>?_;cbv;exact bY (aW _ _ h)
 include hI hM
theorem A7{a0:ai}{a1:ai}{v:Bool}(h:xp I M n a0 a1=some v):
  cv 100 [(.agg (ay M r a0)),(.agg (ay M r a1)),(.aR r [(.fn (.func 97) [(.aR r [(.fn (.func 96) [])] 0)])] 0)] (vb v) g nx:=by
 refine cS func100 avL r Z4 acE [] 26 ntmps100 [.tmp 5] hI fun call hc=>?_;cbv;refine ag h fun y1 c9 h=>⟨_,fun hp=>us hc (pn hI hM (aD c9 hp.1)),?_⟩;cbv;cbv;cases h;exact fin
 include hI hM
theorem pM{a0:List ai}{a1:List ai}{v:Bool}(h:kV I M n a0 a1=some v):
  cv 80 [(.sl r (M.map (ay M r) a0)),(.sl r (M.map (ay M r) a1)),(.fn (.func 100) [(.aR r [(.fn (.func 97) [(.aR r [(.fn (.func 96) [])] 0)])] 0)])] (vb v) g nx:=by
 refine cS func80 c80 r aeZ ajn [] 32 ntmps80 [.tmp 6] hI fun call hc=>?_;cbv;refine letE h fun n1 dJ h=>⟨_,an hI hM dJ,?_⟩;cbv;refine letE h fun n2 oC h=>⟨_,an hI hM oC,?_⟩;cbv;refine si h (fun h=>by cbv;cases h;exact fin) fun h=>?_;cbv;refine⟨_,an hI hM dJ,?_⟩;cbv;refine lp h (fun z3=>[(17,(vi z3))]) (fun z3=>[]) fun mK m1 aW z3 h=>?_;dsimp only[jG]at h;cbv;refine si h (fun h=>?_) fun h=>by cbv;cases h;exact fin
 cbv;refine ag h fun x4 vW h=>⟨_,ao hM vW rfl,?_⟩;cbv;refine ag h fun x5 rC h=>⟨_,ao hM rC rfl,?_⟩;cbv;refine ag h fun y6 Ao h=>⟨_,_,_,us hc (A7 hI hM Ao),?_⟩;cbv;refine si h (fun h=>by cbv;cases h;exact fin) fun h=>?_;cbv;exact bY (aW _ _ h)
 include hI hM
theorem dv{a0:af}{a1:af}{v:Bool}(h:oq I M n a0 a1=some v):
  cv 46 [(.agg (aZ M r a0)),(.agg (aZ M r a1))] (vb v) g nx:=by
 refine cS func46 c46 r afn ajL [] 21 ntmps46 [.tmp 4] hI fun call hc=>?_;cbv;refine ag h fun y1 c9 h=>?_;refine ag h fun y2 uz h=>?_;refine ag h fun u3 qu3 h=>?_;refine ag h fun u4 qu4 h=>?_;refine letE h fun b5 qb5 h=>?_;refine ag h fun y6 Ao h=>?_;apply Exists.intro;refine⟨?_,_,rfl,?_⟩
 ·cbv;repeat' first|exact .inl rfl|exact trivial|(refine⟨_,_,_,us hc (xk hI hM c9),?_⟩;cbv)|(refine⟨_,_,_,us hc (xk hI hM uz),?_⟩;cbv)|(refine⟨_,Pp hM qu3 qu4 qb5 rfl,?_⟩;cbv)|(refine⟨_,fun hp=>us hc (pM hI hM (aD Ao hp.1)),?_⟩;cbv)|apply And.intro
  all_goals exact bn
 cbv;cases h;exact fin
 include hI hM
theorem yJ{a0:af}{v:af}(h:oe I M n a0=some v):
  cv 77 [(.agg (aZ M p a0))] (.agg (aZ M r v)) g nx:=by
 refine cS func77 c77 r ae0 ajo [] 5 ntmps77 [.cell 2 24] hI fun call hc=>?_;cbv;refine ag h fun y1 c9 h=>⟨_,_,_,us hc (A4 hI hM c9 (r:=r)),?_⟩;cbv;cbv;cases h;exact fin
 include hI hM
theorem vf{a1:af}{v:af}(h:qa I M n a1=some v):
  cv 78 [(.agg [(.fn (.func 12) [])]),(.agg (aZ M r a1))] (.agg (aZ M r v)) g nx:=by
 refine cS func78 c78 r ES Gu [] 15 ntmps78 [.cell 4 24] hI fun call hc=>?_;cbv;refine ag h fun y1 c9 h=>⟨_,_,_,us hc (tS hI hM c9 (r:=r)),?_⟩;cbv;cbv;cases h;exact fin
 include hI hM
theorem pN{a0:List aH}{v:Bool}(h:kW I M n a0=some v):
  cv 37 [(.sl r (M.map (bB M r) a0)),(.fn (.func 152) [(.aR r [(.fn (.func 120) [])] 0)])] (vb v) g nx:=by
 refine cS func37 c37 r Ud XZ [] 9 ntmps37 [.tmp 4] hI fun call hc=>?_;cbv;refine ag h fun y1 c9 h=>⟨_,_,_,us hc (rI hI hM c9),?_⟩;cbv;cbv;cases h;exact fin
 include hI hM
theorem vS{a0:List aH}{v:Bool}(h:qN I M n a0=some v):
  cv 119 [(.sl r (M.map (bB M r) a0)),(.fn (.func 120) [])] (vb v) g nx:=by
 refine cS func119 avD r ZS acr [] 9 ntmps119 [.tmp 4] hI fun call hc=>?_;cbv;refine ag h fun y1 c9 h=>⟨_,_,_,us hc (pN hI hM c9),?_⟩;cbv;cbv;cases h;exact fin
 include hI hM
theorem pP{a0:ah}{v:Bool}(h:uD I M n a0=some v):
  cv 74 [(.agg (az M r a0))] (vb v) g nx:=by
 refine cS func74 c74 r ae1 ajp [] 6 ntmps74 [.tmp 2] hI fun call hc=>?_;cbv;refine ag h fun y1 c9 h=>⟨_,_,_,us hc (vS hI hM c9),?_⟩;cbv;cbv;cases h;exact fin
 include hI hM
theorem pv{a0:ai}{v:Bool}(h:rZ I M n a0=some v):
  cv 67 [(.agg (ay M r a0))] (vb v) g nx:=by
 refine cS func67 c67 r ae6 aju [] 22 ntmps67 [.tmp 2] hI fun call hc=>?_;cbv;refine letE h fun n1 dJ h=>⟨_,an hI hM dJ,?_⟩;cbv;refine ag h fun x2 YE h=>⟨_,fun hp=>ao hM (aD YE hp.1) rfl,?_⟩;cbv;refine ag h fun x3 me h=>⟨_,fun hp=>ao hM (aD me hp.1) rfl,?_⟩;cbv;refine ag h fun y4 oc h=>⟨_,fun hp=>us hc (pP hI hM (aD oc hp.1)),?_⟩;cbv;cbv;cases h;exact fin
 include hI hM
theorem uZ{a1:af}{v:af}(h:p7 I M n a1=some v):
  cv 78 [(.agg [(.fn (.func 11) [])]),(.agg (aZ M r a1))] (.agg (aZ M r v)) g nx:=by
 refine cS func78 c78 r ES Gu [] 15 ntmps78 [.cell 4 24] hI fun call hc=>?_;cbv;refine ag h fun y1 c9 h=>⟨_,_,_,us hc (DR hI hM c9 (r:=r)),?_⟩;cbv;cbv;cases h;exact fin
 include hI hM
theorem nw{a0:af}{v:(List Int)×Int}(h:ej I M n a0=some v):
  cv 29 [(.agg (aZ M r a0))] (.gw [(.sl r (M.map aq v.1)),(vi v.2)]) g nx:=by
 refine cS func29 c29 r afz ajX [] 18 ntmps29 [.tmp 2,.tmp 3] hI fun call hc=>?_;cbv;refine ag h fun y1 c9 h=>⟨_,_,_,us hc (dh hI hM c9),?_⟩;cbv;refine si h (fun h=>by cbv;cases h;exact fin) fun h=>?_;cbv;refine ag h fun y2 uz h=>⟨_,_,_,us hc (sn hI hM uz),?_⟩;cbv;refine letE h fun l3 To h=>⟨_,⟨rfl,gA (enc:=aq) hI hM To rfl⟩,?_⟩;cbv;refine ag h fun u4 qu4 h=>?_
 (first|refine⟨⟨rfl,rfl,rfl,aS hI hM qu4,rfl,(by have hq:=dq (enc:=aq) hM (fun _=>rfl) y2;rw[ep.eq_def]at hq;exact hq)⟩,?_⟩|refine⟨⟨aS hI hM qu4,(by have hq:=dq (enc:=aq) hM (fun _=>rfl) y2;rw[ep.eq_def]at hq;exact hq)⟩,?_⟩)
 cbv;refine letE h fun n5 qn5 h=>⟨_,an hI hM qn5,?_⟩;cbv;refine ag h fun j6 qj6 h=>⟨_,akl (enc:=aq) hI hM qj6 (by decide),?_⟩;cbv;refine ag h fun y7 Jy h=>⟨fun _=>rfl,(.sl r (M.map aq y7)),g,nx,fun ρ=>by cbv;refine us hc ((yf (s:=ρ) hI hM Jy (r:=r)).wk ?_);exact⟨(arf hM y2 j6),trivial⟩,?_⟩;cbv;cbv;cases h;exact fin
 include hI hM
theorem xf{a0:af}{a1:ByteArray}{v:af×Int}(h:ga I M n a0 a1=some v):
  cv 31 [(.agg (aZ M p a0)),(vs a1)] (.gw [(.agg (aZ M r v.1)),(vi v.2)]) g nx:=by
 refine yi func31 c31 r afx ajV [] 86 ntmps31 [.cell 4 24,.tmp 5] hI (bp.cons (o7 r) (bp.cons (sm r) (sX PP gL))) 8 fun call hc=>?_;cbv;refine ag h fun y1 c9 h=>⟨_,_,_,us hc (iK hI hM c9),?_⟩;cbv;refine si h (fun h=>by cbv;cases h;exact fin) fun h=>?_;cbv;refine letE h fun l2 R7 h=>⟨_,⟨rfl,gA (enc:=aq) hI hM R7 rfl⟩,?_⟩;cbv;refine ag h fun k3 qk3 h=>?_
 (first|refine⟨_,⟨rfl,rfl,aK hI qk3⟩,?_⟩|refine⟨_,aK hI qk3,?_⟩)
 cbv;refine ag h fun x4 vW h=>?_;refine ag h fun l5 ql5 h=>⟨_,mU hI hM vW ql5 (by decide) rfl rfl,?_⟩;cbv;refine lp h (fun l6=>[]) (fun l6=>[(8,.arr 1 (M.map aq l6))]) fun mK m1 aW l6 h=>?_;dsimp only[e8]at h;cbv;refine ag h fun u7 qu7 h=>?_
 (first|refine⟨⟨rfl,aS hI hM qu7,rfl⟩,?_⟩|refine⟨⟨aS hI hM qu7,trivial⟩,?_⟩|refine⟨aS hI hM qu7,?_⟩)
 cbv;refine letE h fun l8 RZ h=>⟨_,⟨rfl,gA (enc:=aq) hI hM RZ rfl⟩,?_⟩;cbv;refine ag h fun u9 qu9 h=>?_
 (first|refine⟨⟨rfl,rfl,rfl,aS hI hM qu9,rfl,(by have hq:=dq (enc:=aq) hM (fun _=>rfl) l6;rw[ep.eq_def]at hq;exact hq)⟩,?_⟩|refine⟨⟨aS hI hM qu9,(by have hq:=dq (enc:=aq) hM (fun _=>rfl) l6;rw[ep.eq_def]at hq;exact hq)⟩,?_⟩)
 cbv;intro l;cbv;refine letE h fun BW BR h=>⟨_,an hI hM BR,?_⟩;cbv;refine lp h (fun(zX,yT)=>[(10,(vi yT))]) (fun(zX,yT)=>[(8,.arr 1 (M.map aq zX))]) fun D0 m2 eM st h=>?_;obtain⟨zX,yT⟩:=st;dsimp only[ju]at h;cbv;refine si h (fun h=>?_) fun h=>?_
 ·as_aux_lemma=>
   cbv;refine ag h fun GU JF h=>⟨_,ao hM JF rfl,?_⟩;cbv;refine letE h fun DG Fx h=>⟨_,an hI hM Fx,?_⟩;cbv;refine lp h (fun(vN,kr)=>[(18,(vi kr))]) (fun(vN,kr)=>[(8,.arr 1 (M.map aq vN))]) fun Nl m3 jO st h=>?_;obtain⟨vN,kr⟩:=st;dsimp only[jt]at h;cbv;refine si h (fun h=>?_) fun h=>?_
   ·as_aux_lemma=>
     cbv;refine ag h fun pA zb h=>⟨_,ao hM zb rfl,?_⟩;cbv;(try(refine⟨⟨rfl,rfl,rfl⟩,?_⟩;cbv));refine letE h fun uL ahw h=>⟨_,⟨rfl,gA (enc:=aq) hI hM ahw rfl⟩,?_⟩;cbv;refine ag h fun u19 Oi h=>?_
     (first|refine⟨_,⟨aS hI hM Oi,qh (enc:=aq) (l:=[yT,kr]) hI hM rfl⟩,?_⟩|refine⟨_,⟨rfl,aS hI hM Oi,rfl,rfl,qh (enc:=aq) (l:=[yT,kr]) hI hM rfl⟩,?_⟩)
     cbv;(try(refine⟨rfl,?_⟩;cbv));refine letE h fun n20 ag5 h=>⟨_,an hI hM ag5,?_⟩;cbv;refine lp h (fun(vE,D8)=>[(39,(vi D8))]) (fun(vE,D8)=>[(8,.arr 1 (M.map aq vE))]) fun Tf m4 ni st h=>?_;obtain⟨vE,D8⟩:=st;dsimp only[js]at h;cbv;refine si h (fun h=>?_) fun h=>?_
     ·cbv;refine ag h fun x23 arM h=>⟨_,ao hM arM rfl,?_⟩;cbv;refine ag h fun k24 LH h=>?_
      (first|refine⟨_,⟨rfl,rfl,aK hI LH⟩,?_⟩|refine⟨_,aK hI LH,?_⟩)
      cbv;refine ag h fun z0 Of h=>⟨_,_,rfl,bA hM Of,rfl,?_⟩;cbv;refine ag h fun k26 VS h=>?_
      (first|refine⟨_,⟨rfl,rfl,aK hI VS⟩,?_⟩|refine⟨_,aK hI VS,?_⟩)
      cbv;refine ag h fun qy UT h=>⟨_,_,rfl,bA hM UT,rfl,?_⟩;cbv;refine ag h fun Rl RV h=>⟨_,fun hp=>us hc (cR hI hM (aD RV hp.1)),?_⟩;cbv;refine si h (fun h=>?_) fun h=>?_
      ·cbv;refine ag h fun Yz RU h=>⟨_,_,_,us hc (iK hI hM RU),?_⟩;cbv;refine ag h fun k30 amv h=>?_
       (first|refine⟨_,⟨rfl,rfl,aK hI amv⟩,?_⟩|refine⟨_,aK hI amv,?_⟩)
       cbv;refine ag h fun x31 agp h=>?_;refine ag h fun zV Vx h=>⟨_,mU hI hM agp Vx (by decide) rfl rfl,?_⟩;cbv;exact bY (ni _ _ h)
      cbv;exact bY (ni _ _ h)
     cbv;(try(refine⟨rfl,?_⟩;cbv));refine lW hI ?_;cbv;exact bY (jO _ _ h)
   cbv;exact bY (eM _ _ h)
 cbv;try(refine⟨rfl,?_⟩;cbv)
 refine ag h fun u39 agC h=>?_
 (first|refine⟨⟨rfl,aS hI hM agC,rfl⟩,?_⟩|refine⟨⟨aS hI hM agC,trivial⟩,?_⟩|refine⟨aS hI hM agC,?_⟩)
 cbv;refine ag h fun u40 agA h=>?_
 (first|refine⟨⟨rfl,aS hI hM agA,rfl⟩,?_⟩|refine⟨⟨aS hI hM agA,trivial⟩,?_⟩|refine⟨aS hI hM agA,?_⟩)
 cbv;refine ag h fun u41 arV h=>?_;refine ag h fun u42 arU h=>?_;refine letE h fun b43 ast h=>⟨_,Pp hM arV arU ast rfl,?_⟩;cbv;refine si h (fun h=>?_) fun h=>?_
 ·as_aux_lemma=>
   cbv;refine ag h fun Tm af0 h=>⟨_,_,_,us hc (yJ hI hM af0 (r:=r)),?_⟩;cbv;refine letE h fun OT JH h=>⟨_,an hI hM JH,?_⟩;cbv;refine lp h (fun(Ml,Yv)=>[(69,(vi Yv))]) (fun(Ml,Yv)=>[(16,.box [(.gs r (.c 16 0) (M.map (ay M r) Ml))])]) fun TG m5 oX st h=>?_;obtain⟨Ml,Yv⟩:=st;dsimp only[gC]at h;cbv;refine si h (fun h=>?_) fun h=>(by cbv;cases h;exact fin);cbv;refine ag h fun x49 arE h=>⟨_,ao hM arE rfl,?_⟩;cbv;refine ag h fun k50 amr h=>?_
   (first|refine⟨_,⟨rfl,rfl,aK hI amr⟩,?_⟩|refine⟨_,aK hI amr,?_⟩)
   cbv;refine ag h fun x51 arD h=>⟨_,_,rfl,bA hM arD,rfl,?_⟩;cbv;refine si h (fun h=>?_) fun h=>?_
   ·cbv;refine⟨_,cC (enc:=(ay M r)) (x:=x49) hM (ak _) rfl,?_⟩;cbv;refine ag h fun YO asb h=>⟨_,ax (enc:=(ay M r)) hI hM asb (fun _=>rfl) rfl (fun _=>rfl),?_⟩;cbv;exact bY (oX _ _ h)
   cbv;exact bY (oX _ _ h)
 cbv;exact bY (aW _ _ h)
 include hI hM
theorem Gj{a0:af}{v:af}(h:rV I M n a0=some v):
  cv 27 [(.agg (aZ M r a0))] (.agg (aZ M r v)) g nx:=by
 refine cS func27 c27 r afB ajZ [] 113 ntmps27 [.cell 2 24] hI fun call hc=>?_;cbv;refine ag h fun y1 c9 h=>⟨_,_,_,us hc (tQ hI hM c9),?_⟩;cbv;refine lp h (fun(l2,z3)=>[(5,(vi z3))]) (fun(l2,z3)=>[(4,.box [(.gs r (.c 4 0) (M.map (ay M r) l2))])]) fun mK m1 aW st h=>?_;obtain⟨l2,z3⟩:=st;dsimp only[lH]at h;cbv;refine letE h fun n4 He h=>⟨_,an hI hM He,?_⟩;cbv;refine si h (fun h=>?_) fun h=>by cbv;cases h;exact fin
 cbv;refine ag h fun x5 rC h=>⟨_,ao hM rC rfl,?_⟩;cbv;refine si h (fun h=>?_) fun h=>?_
 ·cbv;exact bY (aW _ _ h)
 cbv;refine ag h fun x6 Fo h=>?_;apply Exists.intro;refine⟨?_,_,rfl,?_⟩
 ·cbv;repeat' first|exact .inl rfl|exact trivial|(refine⟨_,ao hM Fo rfl,?_⟩;cbv)|apply And.intro
  all_goals exact bn
 cbv;refine lp h (fun(l7,z8)=>[(7,(vi z8)),(18,.any),(26,.any)]) (fun(l7,z8)=>[(6,.box [(vs x6.name),(vi x6.aG),(.gs r (.c 6 2) (M.map (az M r) l7))])]) fun D0 m2 eM st h=>?_;obtain⟨l7,z8⟩:=st;dsimp only[jo]at h;cbv;refine ag h fun x9 qx9 h=>⟨_,ao hM qx9 rfl,?_⟩;cbv;refine letE h fun BW BR h=>⟨_,an hI hM BR,?_⟩;cbv;refine si h (fun h=>?_) fun h=>?_
 ·as_aux_lemma=>
   cbv;refine⟨_,ao hM qx9 rfl,?_⟩;cbv;refine ag h fun Ac DC h=>⟨_,ao hM DC rfl,?_⟩;cbv;refine lp h (fun(gJ,lV)=>[(10,(vi lV))]) (fun(gJ,lV)=>[(9,.box [(vs Ac.head),(vi Ac.aN),(.gs r (.c 9 2) (M.map (bB M r) gJ)),(vi Ac.result)])]) fun Nl m3 jO st h=>?_;obtain⟨gJ,lV⟩:=st;dsimp only[jn]at h;cbv;refine letE h fun DG Fx h=>⟨_,an hI hM Fx,?_⟩;cbv;refine si h (fun h=>?_) fun h=>?_
   ·cbv;refine ag h fun vw Fs h=>⟨_,ao hM Fs rfl,?_⟩;cbv;refine ag h fun KX JB h=>⟨_,_,_,us hc (nv hI hM JB),?_⟩;cbv;refine si h (fun h=>?_) fun h=>?_
    ·cbv;refine ag h fun Nq N5 h=>?_;refine ag h fun yo Og h=>?_;refine ag h fun KP Ap h=>?_;apply Exists.intro;refine⟨?_,_,rfl,?_⟩
     ·cbv;(repeat' first|exact .inl rfl|exact trivial|(refine⟨_,_,_,us hc (fa hI hM N5),?_⟩;cbv)|(refine⟨_,ao hM Og rfl,?_⟩;cbv)|(refine⟨_,ao hM Ap rfl,?_⟩;cbv)|apply And.intro);all_goals exact bn
     cbv;refine⟨_,cC (enc:=(bB M r)) (x:=(⟨vw.kind,KP.name,vw.num,vw.args⟩:aH)) hM (ak _) rfl,?_⟩;cbv;refine ag h fun Qw JN h=>⟨_,ax (enc:=(bB M r)) hI hM JN (fun _=>rfl) rfl (fun _=>rfl),?_⟩;cbv;exact bY (jO _ _ h)
    cbv;refine⟨_,cC (enc:=(bB M r)) (x:=vw) hM (ak _) rfl,?_⟩;cbv;refine ag h fun vE JM h=>⟨_,ax (enc:=(bB M r)) hI hM JM (fun _=>rfl) rfl (fun _=>rfl),?_⟩;cbv;exact bY (jO _ _ h)
   cbv;refine⟨_,cC (enc:=(az M r)) (x:=(⟨Ac.head,Ac.aN,gJ,Ac.result⟩:ah)) hM (ak _) rfl,?_⟩;cbv;refine ag h fun H9 asf h=>⟨_,ax (enc:=(az M r)) hI hM asf (fun _=>rfl) rfl (fun _=>rfl),?_⟩;cbv;exact bY (eM _ _ h)
 cbv;refine⟨_,cC (enc:=(ay M r)) (x:=(⟨x6.name,x6.aG,l7⟩:ai)) hM (ak _) rfl,?_⟩;cbv;refine ag h fun nV ase h=>⟨_,ax (enc:=(ay M r)) hI hM ase (fun _=>rfl) rfl (fun _=>rfl),?_⟩;cbv;exact bY (aW _ _ h)
end Ab
