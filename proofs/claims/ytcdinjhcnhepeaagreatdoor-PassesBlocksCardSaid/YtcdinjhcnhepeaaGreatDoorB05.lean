/- PassesBlocks holds of all cores and names (no condition): a part of the proof: an abstract interpreter of the code that is proved sound, models of the functions, and laws of these models. -/
import Derived.Test.YtcdinjhcnhepeaaGreatDoorB03
import Derived.Test.YtcdinjhcnhepeaaGreatDoorB04
set_option linter.unusedVariables false
set_option linter.unusedSimpArgs false
set_option linter.unusedSectionVars false
namespace Ab
open Go Go.Proofs.Tryz
set_option maxHeartbeats 100000000
set_option maxRecDepth 100000
variable{I:Pr}(hI:I=al){M:Md}(hM:M= .al){n nx r s p q u rl:Nat}{g:Nat→Option Ob}
 include hI hM
theorem cL{a0:List Int}{a1:List Int}{v:Bool}(h:da I M n a0 a1=some v):
  cv 47 [(.sl r (M.map aq a0)),(.sl r (M.map aq a1))] (vb v) g nx:=by
 refine cS func47 c47 r afm ajK [] 26 ntmps47 [.tmp 4] hI fun call hc=>?_;cbv;refine letE h fun n1 dJ h=>⟨_,an hI hM dJ,?_⟩;cbv;refine letE h fun n2 oC h=>⟨_,an hI hM oC,?_⟩;cbv;refine si h (fun h=>by cbv;cases h;exact fin) fun h=>?_;cbv;refine⟨_,an hI hM dJ,?_⟩;cbv;refine lp h (fun z3=>[(13,(vi z3))]) (fun z3=>[]) fun mK m1 aW z3 h=>?_;dsimp only[iz]at h;cbv;refine si h (fun h=>?_) fun h=>by cbv;cases h;exact fin
 cbv;refine ag h fun x4 vW h=>?_;refine ag h fun x5 rC h=>?_;apply Exists.intro;refine⟨?_,_,rfl,?_⟩
 ·cbv;repeat' first|exact .inl rfl|exact trivial|(refine⟨_,ao hM vW rfl,?_⟩;cbv)|(refine⟨_,ao hM rC rfl,?_⟩;cbv)|apply And.intro
  all_goals exact bn
 cbv;refine si h (fun h=>by cbv;cases h;exact fin) fun h=>?_;cbv;exact bY (aW _ _ h)
 include hI hM
theorem yK{a0:List Int}{a1:List Int}{v:Bool}(h:mf I M n a0 a1=some v):
  cv 32 [(.sl r (M.map aq a0)),(.sl r (M.map aq a1))] (vb v) g nx:=by
 refine cS func32 c32 r afw ajU [] 8 ntmps32 [.tmp 4] hI fun call hc=>?_;cbv;refine ag h fun y1 c9 h=>⟨_,_,_,us hc (cL hI hM c9),?_⟩;cbv;cbv;cases h;exact fin
 include hI hM
theorem zD{a0:aH}{v:Bool}(h:jf I M n a0=some v):
  cv 38 [(.agg (bB M r a0))] (vb v) g nx:=by
 refine cS func38 c38 r afs ajQ [] 13 ntmps38 [.tmp 2] hI fun call hc=>?_;cbv;refine letE h fun n1 dJ h=>⟨_,gS hI dJ,?_⟩;cbv;refine letE h fun n2 oC h=>⟨_,an hI hM oC,?_⟩;cbv;cbv;cases h;exact fin
 include hI hM
theorem rJ{a0:List aH}{v:Int}(h:mS I M n a0=some v):
  cv 94 [(.sl r (M.map (bB M r) a0)),(.fn (.func 38) [])] (vi v) g nx:=by
 refine cS func94 c94 r T8 XU [] 19 ntmps94 [.tmp 4] hI fun call hc=>?_;cbv;refine letE h fun n1 dJ h=>⟨_,an hI hM dJ,?_⟩;cbv;refine lp h (fun z2=>[(8,(vi z2))]) (fun z2=>[]) fun mK m1 aW z2 h=>?_;dsimp only[lD]at h;cbv;refine si h (fun h=>?_) fun h=>by cbv;cases h;exact fin
 cbv;refine ag h fun x3 me h=>⟨_,ao hM me rfl,?_⟩;cbv;refine ag h fun y4 oc h=>⟨_,_,_,us hc (zD hI hM oc),?_⟩;cbv;refine si h (fun h=>by cbv;cases h;exact fin) fun h=>?_;cbv;exact bY (aW _ _ h)
 include hI hM
theorem pO{a0:List aH}{v:Bool}(h:fQ I M n a0=some v):
  cv 37 [(.sl r (M.map (bB M r) a0)),(.fn (.func 38) [])] (vb v) g nx:=by
 refine cS func37 c37 r Ud XZ [] 9 ntmps37 [.tmp 4] hI fun call hc=>?_;cbv;refine ag h fun y1 c9 h=>⟨_,_,_,us hc (rJ hI hM c9),?_⟩;cbv;cbv;cases h;exact fin
 include hI hM
theorem Co{a0:ah}{v:Bool}(h:lP I M n a0=some v):
  cv 36 [(.agg (az M r a0))] (vb v) g nx:=by
 refine cS func36 c36 r aft ajR [] 18 ntmps36 [.tmp 2] hI fun call hc=>?_;cbv;refine letE h fun n1 dJ h=>⟨_,gS hI dJ,?_⟩;cbv;refine letE h fun n2 oC h=>⟨_,an hI hM oC,?_⟩;cbv;refine ag h fun y3 JA h=>⟨_,fun hp=>us hc (pO hI hM (aD JA hp.1)),?_⟩;cbv;cbv;cases h;exact fin
 include hI hM
theorem pj{a0:List ah}{v:Int}(h:jY I M n a0=some v):
  cv 93 [(.sl r (M.map (az M r) a0)),(.fn (.func 36) [])] (vi v) g nx:=by
 refine cS func93 c93 r um vk [] 19 ntmps93 [.tmp 4] hI fun call hc=>?_;cbv;refine letE h fun n1 dJ h=>⟨_,an hI hM dJ,?_⟩;cbv;refine lp h (fun z2=>[(8,(vi z2))]) (fun z2=>[]) fun mK m1 aW z2 h=>?_;dsimp only[iZ]at h;cbv;refine si h (fun h=>?_) fun h=>by cbv;cases h;exact fin
 cbv;refine ag h fun x3 me h=>⟨_,ao hM me rfl,?_⟩;cbv;refine ag h fun y4 oc h=>⟨_,_,_,us hc (Co hI hM oc),?_⟩;cbv;refine si h (fun h=>by cbv;cases h;exact fin) fun h=>?_;cbv;exact bY (aW _ _ h)
 include hI hM
theorem nu{a0:List ah}{v:Bool}(h:ef I M n a0=some v):
  cv 35 [(.sl r (M.map (az M r) a0)),(.fn (.func 36) [])] (vb v) g nx:=by
 refine cS func35 c35 r yY zH [] 9 ntmps35 [.tmp 4] hI fun call hc=>?_;cbv;refine ag h fun y1 c9 h=>⟨_,_,_,us hc (pj hI hM c9),?_⟩;cbv;cbv;cases h;exact fin
 include hI hM
theorem Gl{a0:ai}{v:Bool}(h:oU I M n a0=some v):
  cv 34 [(.agg (ay M r a0))] (vb v) g nx:=by
 refine cS func34 c34 r afu ajS [] 18 ntmps34 [.tmp 2] hI fun call hc=>?_;cbv;refine letE h fun n1 dJ h=>⟨_,gS hI dJ,?_⟩;cbv;refine letE h fun n2 oC h=>⟨_,an hI hM oC,?_⟩;cbv;refine ag h fun y3 JA h=>⟨_,fun hp=>us hc (nu hI hM (aD JA hp.1)),?_⟩;cbv;cbv;cases h;exact fin
 include hI hM
theorem pJ{a0:List ai}{v:Int}(h:kU I M n a0=some v):
  cv 92 [(.sl r (M.map (ay M r) a0)),(.fn (.func 34) [])] (vi v) g nx:=by
 refine cS func92 c92 r Jh Kq [] 19 ntmps92 [.tmp 4] hI fun call hc=>?_;cbv;refine letE h fun n1 dJ h=>⟨_,an hI hM dJ,?_⟩;cbv;refine lp h (fun z2=>[(8,(vi z2))]) (fun z2=>[]) fun mK m1 aW z2 h=>?_;dsimp only[jF]at h;cbv;refine si h (fun h=>?_) fun h=>by cbv;cases h;exact fin
 cbv;refine ag h fun x3 me h=>⟨_,ao hM me rfl,?_⟩;cbv;refine ag h fun y4 oc h=>⟨_,_,_,us hc (Gl hI hM oc),?_⟩;cbv;refine si h (fun h=>by cbv;cases h;exact fin) fun h=>?_;cbv;exact bY (aW _ _ h)
 include hI hM
theorem nS{a0:List ai}{v:Bool}(h:eI I M n a0=some v):
  cv 33 [(.sl r (M.map (ay M r) a0)),(.fn (.func 34) [])] (vb v) g nx:=by
 refine cS func33 c33 r afv ajT [] 9 ntmps33 [.tmp 4] hI fun call hc=>?_;cbv;refine ag h fun y1 c9 h=>⟨_,_,_,us hc (pJ hI hM c9),?_⟩;cbv;cbv;cases h;exact fin
 include hI hM
theorem Kl{a0:af}{v:Bool}(h:xN I M n a0=some v):
  cv 7 [(.agg (aZ M r a0))] (vb v) g nx:=by
 refine cS func7 c7 r alB aoQ [] 12 ntmps7 [.tmp 2] hI fun call hc=>?_;cbv;refine letE h fun n1 dJ h=>⟨_,an hI hM dJ,?_⟩;cbv;refine ag h fun y2 uz h=>⟨_,fun hp=>us hc (nS hI hM (aD uz hp.1)),?_⟩;cbv;cbv;cases h;exact fin
 include hI hM
theorem Gm{a0:List Int}{v:List Int}(h:se I M n a0=some v):
  cv 61 [(.sl s (M.map aq a0))] (.sl r (M.map aq v)) g nx:=by
 refine cS func61 c61 r afb ajz [] 6 ntmps61 [.tmp 2] hI fun call hc=>?_;cbv;refine⟨_,bl0 (enc:=aq) hM,?_⟩;cbv;refine ag h fun l1 OF h=>⟨_,PG (enc:=aq) hI hM OF (fun _=>rfl) rfl (fun _=>rfl),?_⟩;cbv;cbv;cases h;exact fin
 include hI hM
theorem A5{a0:af}{v:af}(h:tB I M n a0=some v):
  cv 13 [(.agg (aZ M s a0))] (.agg (aZ M r v)) g nx:=by
 refine cS func13 c13 r afI aj6 [] 76 ntmps13 [.cell 2 24] hI fun call hc=>?_;cbv;refine letE h fun n1 dJ h=>⟨_,an hI hM dJ,?_⟩;cbv;refine lp h (fun(l2,z3)=>[(15,(vi z3))]) (fun(l2,z3)=>[(3,.box [(.gs r (.c 3 0) (M.map (ay M r) l2))])]) fun mK m1 aW st h=>?_;obtain⟨l2,z3⟩:=st;dsimp only[oT]at h;cbv;refine si h (fun h=>?_) fun h=>by cbv;cases h;exact fin
 cbv;refine ag h fun x4 vW h=>⟨_,ao hM vW rfl,?_⟩;cbv;refine letE h fun n5 qn5 h=>⟨_,an hI hM qn5,?_⟩;cbv;refine lp h (fun(l6,z7)=>[(16,.any),(27,(vi z7))]) (fun(l6,z7)=>[(6,.box [(vs x4.name),(vi x4.aG),(.gs r (.c 6 2) (M.map (az M r) l6))])]) fun D0 m2 eM st h=>?_;obtain⟨l6,z7⟩:=st;dsimp only[mD]at h;cbv;refine si h (fun h=>?_) fun h=>?_
 ·as_aux_lemma=>
   cbv;refine ag h fun x8 qx8 h=>⟨_,ao hM qx8 rfl,?_⟩;cbv;refine letE h fun n9 qn9 h=>⟨_,an hI hM qn9,?_⟩;cbv;refine lp h (fun(l10,Yw)=>[(41,(vi Yw))]) (fun(l10,Yw)=>[(9,.box [(vs x8.head),(vi x8.aN),(.gs r (.c 9 2) (M.map (bB M r) l10)),(vi x8.result)])]) fun Nl m3 jO st h=>?_;obtain⟨l10,Yw⟩:=st;dsimp only[mC]at h;cbv;refine si h (fun h=>?_) fun h=>?_
   ·cbv;refine ag h fun v3 vL h=>⟨_,ao hM vL rfl,?_⟩;cbv;refine ag h fun ue za h=>?_;refine ag h fun WL asi h=>?_;apply Exists.intro;refine⟨?_,_,rfl,?_⟩
    ·cbv;(repeat' first|exact .inl rfl|exact trivial|(refine⟨_,_,_,us hc (Gm hI hM za (r:=r)),?_⟩;cbv)|(refine⟨_,cC (enc:=(bB M r)) (x:=(⟨v3.kind,v3.name,v3.num,ue⟩:aH)) hM (ak _) rfl,?_⟩;cbv)|(refine⟨_,ax (enc:=(bB M r)) hI hM asi (fun _=>rfl) rfl (fun _=>rfl),?_⟩;cbv)|apply And.intro);all_goals exact bn
    cbv;exact bY (jO _ _ h)
   cbv;refine⟨_,cC (enc:=(az M r)) (x:=(⟨x8.head,x8.aN,l10,x8.result⟩:ah)) hM (ak _) rfl,?_⟩;cbv;refine ag h fun zu ahx h=>⟨_,ax (enc:=(az M r)) hI hM ahx (fun _=>rfl) rfl (fun _=>rfl),?_⟩;cbv;exact bY (eM _ _ h)
 cbv;refine⟨_,cC (enc:=(ay M r)) (x:=(⟨x4.name,x4.aG,l6⟩:ai)) hM (ak _) rfl,?_⟩;cbv;refine ag h fun Qw JN h=>⟨_,ax (enc:=(ay M r)) hI hM JN (fun _=>rfl) rfl (fun _=>rfl),?_⟩;cbv;exact bY (aW _ _ h)
 include hI hM
theorem xk{a0:af}{v:List Int}(h:xo I M n a0=some v):
  cv 99 [(.agg (aZ M r a0))] (.ar 6 1 (M.map aq v)) g nx:=by
 refine yi func99 c99 r aeL ai9 [] 24 ntmps99 [.cell 2 122] hI (bp.cons (XG r) (bp.cons (XI r) (sX PP gL))) 8 fun call hc=>?_;cbv;refine letE h fun l1 OF h=>⟨_,⟨rfl,gA (enc:=aq) hI hM OF rfl⟩,?_⟩;cbv;refine letE h fun l2 R7 h=>⟨_,⟨rfl,gA (enc:=aq) hI hM R7 rfl⟩,?_⟩;cbv;intro l;cbv;refine letE h fun n3 qn3 h=>⟨_,an hI hM qn3,?_⟩;cbv;refine lp h (fun(l4,z5)=>[(12,(vi z5))]) (fun(l4,z5)=>[(3,.arr 1 (M.map aq l4))]) fun mK m1 aW st h=>?_;obtain⟨l4,z5⟩:=st;dsimp only[yN]at h;cbv;refine si h (fun h=>?_) fun h=>?_
 ·as_aux_lemma=>
   cbv;refine ag h fun x6 Fo h=>⟨_,ao hM Fo rfl,?_⟩;cbv;refine letE h fun n7 qn7 h=>⟨_,an hI hM qn7,?_⟩;cbv;refine lp h (fun(l8,z9)=>[(13,.any),(19,(vi z9))]) (fun(l8,z9)=>[(3,.arr 1 (M.map aq l8))]) fun D0 m2 eM st h=>?_;obtain⟨l8,z9⟩:=st;dsimp only[yM]at h;cbv;refine si h (fun h=>?_) fun h=>?_
   ·as_aux_lemma=>
     cbv;refine ag h fun Dz BN h=>⟨_,ao hM BN rfl,?_⟩;cbv;refine letE h fun yG BQ h=>⟨_,an hI hM BQ,?_⟩;cbv;refine lp h (fun(gJ,lV)=>[(26,(vi lV))]) (fun(gJ,lV)=>[(3,.arr 1 (M.map aq gJ))]) fun Nl m3 jO st h=>?_;obtain⟨gJ,lV⟩:=st;dsimp only[yL]at h;cbv;refine si h (fun h=>?_) fun h=>?_
     ·as_aux_lemma=>
       cbv;refine ag h fun yp Ft h=>⟨_,ao hM Ft rfl,?_⟩;cbv;(try(refine⟨⟨rfl,rfl,rfl⟩,?_⟩;cbv));(try(refine⟨rfl,?_⟩;cbv));refine si h (fun h=>?_) fun h=>?_
       ·cbv;refine ag h fun k15 aas h=>?_
        (first|refine⟨_,⟨rfl,rfl,aK hI aas⟩,?_⟩|refine⟨_,aK hI aas,?_⟩)
        cbv;refine ag h fun x16 UU h=>⟨_,_,rfl,bA hM UU,rfl,?_⟩;cbv
        (first|refine⟨_,⟨rfl,rfl,aK hI aas⟩,?_⟩|refine⟨_,aK hI aas,?_⟩)
        cbv;refine ag h fun zu ahx h=>⟨_,mU hI hM UU ahx (by decide) rfl rfl,?_⟩;cbv;(try(refine⟨rfl,?_⟩;cbv));refine lW hI ?_;cbv;exact bY (jO _ _ h)
       cbv;refine ag h fun WT DD h=>?_
       (first|refine⟨_,⟨rfl,rfl,aK hI DD⟩,?_⟩|refine⟨_,aK hI DD,?_⟩)
       cbv;refine ag h fun KP Ap h=>⟨_,_,rfl,bA hM Ap,rfl,?_⟩;cbv
       (first|refine⟨_,⟨rfl,rfl,aK hI DD⟩,?_⟩|refine⟨_,aK hI DD,?_⟩)
       cbv;refine ag h fun Qw JN h=>⟨_,mU hI hM Ap JN (by decide) rfl rfl,?_⟩;cbv;(try(refine⟨rfl,?_⟩;cbv));refine lW hI ?_;cbv;exact bY (jO _ _ h)
     cbv;exact bY (eM _ _ h)
   cbv;exact bY (aW _ _ h)
 cbv;try(refine⟨rfl,?_⟩;cbv)
 refine ag h fun u27 agE h=>?_
 (first|refine⟨⟨rfl,aS hI hM agE,rfl⟩,?_⟩|refine⟨⟨aS hI hM agE,trivial⟩,?_⟩|refine⟨aS hI hM agE,?_⟩)
 cbv;refine ag h fun u28 amd h=>?_
 (first|refine⟨⟨rfl,rfl,rfl,aS hI hM amd,rfl,(by have hq:=dq (enc:=aq) hM (fun _=>rfl) l4;rw[ep.eq_def]at hq;exact hq)⟩,?_⟩|refine⟨⟨aS hI hM amd,(by have hq:=dq (enc:=aq) hM (fun _=>rfl) l4;rw[ep.eq_def]at hq;exact hq)⟩,?_⟩)
 cbv;refine ag h fun u29 arW h=>?_;obtain rfl:=oJ h;cbv;all_goals(repeat' apply And.intro)
 all_goals first|trivial|rfl|exact(aJ hM)|exact aS hI hM arW
 include hI hM
theorem bu{a0:ByteArray}{a1:Int}{a2:List ah}{v:ai}(h:cG I M n a0 a1 a2=some v):
  cv 43 [(vs a0),(vi a1),(.sl r (M.map (az M r) a2))] (.agg (ay M r v)) g nx:=have _:=hM;by
 refine cS func43 c43 r afq ajO [] 11 ntmps43 [.cell 6 57] hI fun call hc=>?_;cbv;cases h;exact fin
 include hI hM
theorem gF{a0:List ai}{v:af}(h:qY I M n a0=some v):
  cv 42 [(.sl r (M.map (ay M r) a0))] (.agg (aZ M r v)) g nx:=have _:=hM;by
 refine cS func42 c42 r Ub XX [] 5 ntmps42 [.cell 2 24] hI fun call hc=>?_;cbv;cases h;exact fin
 include hI hM
theorem aP{a0:Int}{a1:ByteArray}{a2:Int}{a3:List Int}{v:aH}(h:bO I M n a0 a1 a2 a3=some v):
  cv 45 [(vi a0),(vs a1),(vi a2),(.sl r (M.map aq a3))] (.agg (bB M r v)) g nx:=have _:=hM;by
 refine cS func45 c45 r afo ajM [] 14 ntmps45 [.cell 8 64] hI fun call hc=>?_;cbv;cases h;exact fin
 include hI hM
theorem MO{a0:ByteArray}{a1:Int}{a2:Int}{a3:List aH}{v:ah}(h:Mk I M n a0 a1 a2 a3=some v):
  cv 95 [(vs a0),(vi a1),(vi a2),(.sl r (M.map (bB M r) a3))] (.agg (az M r v)) g nx:=have _:=hM;by
 refine cS func95 c95 r aeO ajc [] 14 ntmps95 [.cell 8 61] hI fun call hc=>?_;cbv;cases h;exact fin
 include hI hM
theorem bK{a0:Int}{a1:List aH}{v:List ah}(h:dr I M n a0 a1=some v):
  cv 44 [(vi a0),(.sl r (M.map (bB M r) a1))] (.sl r (M.map (az M r) v)) g nx:=by
 refine cS func44 c44 r afp ajN [] 9 ntmps44 [.tmp 4] hI fun call hc=>?_;cbv;refine⟨_,cC (enc:=(az M r)) (x:=(⟨⟨#[]⟩,0,a1,a0⟩:ah)) hM (ak _) rfl,?_⟩;cbv;cbv;cases h;exact fin
 include hI hM
theorem sM{v:af}(h:zr I M n=some v):
  cv 40 [] (.agg (aZ M r v)) g nx:=by
 refine cS func40 c40 r afr ajP [] 16 ntmps40 [.cell 0 24] hI fun call hc=>?_;cbv;refine ag h fun y1 c9 h=>?_
 (refine⟨_,_,_,us hc ((aP (r:=r) hI hM c9).wk ?_),?_⟩;next=>exact⟨aA _,aA _,aA _,(aJ hM),trivial⟩)
 cbv;refine⟨_,cC (enc:=(bB M r)) (x:=y1) hM (ak _) rfl,?_⟩;cbv;refine ag h fun y2 uz h=>⟨_,_,_,us hc (MO hI hM uz),?_⟩;cbv;refine⟨_,cC (enc:=(az M r)) (x:=y2) hM (ak _) rfl,?_⟩;cbv;refine ag h fun y3 JA h=>⟨_,_,_,us hc (bu hI hM JA),?_⟩;cbv;refine ag h fun y4 oc h=>?_
 (refine⟨_,_,_,us hc ((aP (r:=r) hI hM oc).wk ?_),?_⟩;next=>exact⟨aA _,aA _,aA _,(aJ hM),trivial⟩)
 cbv;refine⟨_,cC (enc:=aq) (x:=0) hM (ak _) rfl,?_⟩;cbv;refine ag h fun y5 Jz h=>⟨_,_,_,us hc (aP hI hM Jz),?_⟩;cbv;refine⟨_,cC (enc:=aq) (x:=1) hM (ak _) rfl,?_⟩;cbv;refine ag h fun y6 Ao h=>⟨_,_,_,us hc (aP hI hM Ao),?_⟩;cbv;refine⟨_,vT (enc:=(bB M r)) (l:=[y4,y5,y6]) hM ⟨⟨(ak _),rfl⟩,⟨(ak _),rfl⟩,⟨(ak _),rfl⟩,trivial⟩,?_⟩;cbv;refine ag h fun y7 Jy h=>⟨_,_,_,us hc (bK hI hM Jy),?_⟩;cbv;refine ag h fun y8 N2 h=>⟨_,_,_,us hc (bu hI hM N2),?_⟩;cbv;refine⟨_,vT (enc:=(ay M r)) (l:=[y3,y8]) hM ⟨⟨(ak _),rfl⟩,⟨(ak _),rfl⟩,trivial⟩,?_⟩;cbv;refine ag h fun y9 RP h=>⟨_,_,_,us hc (gF hI hM RP),?_⟩;cbv;cbv;cases h;exact fin
 include hI hM
theorem kN{v:af}(h:qu I M n=some v):
  cv 39 [] (.agg (aZ M r v)) g nx:=by
 refine cS func39 c39 r Uc XY [] 23 ntmps39 [.cell 0 24] hI fun call hc=>?_;cbv;refine ag h fun y1 c9 h=>?_
 (refine⟨_,_,_,us hc ((aP (r:=r) hI hM c9).wk ?_),?_⟩;next=>exact⟨aA _,aA _,aA _,(aJ hM),trivial⟩)
 cbv;refine ag h fun y2 uz h=>?_
 (refine⟨_,_,_,us hc ((aP (r:=r) hI hM uz).wk ?_),?_⟩;next=>exact⟨aA _,aA _,aA _,(aJ hM),trivial⟩)
 cbv;refine⟨_,vT (enc:=aq) (l:=[0,1]) hM ⟨⟨(ak _),rfl⟩,⟨(ak _),rfl⟩,trivial⟩,?_⟩;cbv;refine ag h fun y3 JA h=>⟨_,_,_,us hc (aP hI hM JA),?_⟩;cbv;refine⟨_,vT (enc:=(bB M r)) (l:=[y1,y2,y3]) hM ⟨⟨(ak _),rfl⟩,⟨(ak _),rfl⟩,⟨(ak _),rfl⟩,trivial⟩,?_⟩;cbv;refine ag h fun y4 oc h=>⟨_,_,_,us hc (bK hI hM oc),?_⟩;cbv;refine ag h fun y5 Jz h=>⟨_,_,_,us hc (bu hI hM Jz),?_⟩;cbv;refine ag h fun y6 Ao h=>?_
 (refine⟨_,_,_,us hc ((aP (r:=r) hI hM Ao).wk ?_),?_⟩;next=>exact⟨aA _,aA _,aA _,(aJ hM),trivial⟩)
 cbv;refine⟨_,cC (enc:=(bB M r)) (x:=y6) hM (ak _) rfl,?_⟩;cbv;refine ag h fun y7 Jy h=>⟨_,_,_,us hc (bK hI hM Jy),?_⟩;cbv;refine ag h fun y8 N2 h=>⟨_,_,_,us hc (bu hI hM N2),?_⟩;cbv;refine ag h fun y9 RP h=>?_
 (refine⟨_,_,_,us hc ((aP (r:=r) hI hM RP).wk ?_),?_⟩;next=>exact⟨aA _,aA _,aA _,(aJ hM),trivial⟩)
 cbv;refine⟨_,cC (enc:=aq) (x:=0) hM (ak _) rfl,?_⟩;cbv;refine ag h fun yU wq h=>⟨_,_,_,us hc (aP hI hM wq),?_⟩;cbv;refine ag h fun uf BM h=>?_
 (refine⟨_,_,_,us hc ((aP (r:=r) hI hM BM).wk ?_),?_⟩;next=>exact⟨aA _,aA _,aA _,(aJ hM),trivial⟩)
 cbv;refine⟨_,vT (enc:=aq) (l:=[1,2]) hM ⟨⟨(ak _),rfl⟩,⟨(ak _),rfl⟩,trivial⟩,?_⟩;cbv;refine ag h fun Ns N7 h=>⟨_,_,_,us hc (aP hI hM N7),?_⟩;cbv;refine⟨_,vT (enc:=(bB M r)) (l:=[y9,yU,uf,Ns]) hM ⟨⟨(ak _),rfl⟩,⟨(ak _),rfl⟩,⟨(ak _),rfl⟩,⟨(ak _),rfl⟩,trivial⟩,?_⟩;cbv;refine ag h fun ue za h=>⟨_,_,_,us hc (bK hI hM za),?_⟩;cbv;refine ag h fun Nr N6 h=>⟨_,_,_,us hc (bu hI hM N6),?_⟩;cbv;refine⟨_,vT (enc:=(ay M r)) (l:=[y5,y8,Nr]) hM ⟨⟨(ak _),rfl⟩,⟨(ak _),rfl⟩,⟨(ak _),rfl⟩,trivial⟩,?_⟩;cbv;refine ag h fun KN JC h=>⟨_,_,_,us hc (gF hI hM JC),?_⟩;cbv;cbv;cases h;exact fin
end Ab
namespace Ab
open Go
set_option maxHeartbeats 4000000
set_option maxRecDepth 100000
def avR:ai:=⟨⟨#[116,119,111]⟩,0,[⟨⟨#[]⟩,0,[⟨4,fJ,0,[]⟩,⟨5,⟨#[105,100]⟩,0,[0]⟩,⟨5,fJ,0,[]⟩,⟨3,⟨#[112]⟩,0,[1,2]⟩],3⟩]⟩
def T6:af:=⟨[DJ fJ,⟨⟨#[105,100]⟩,1,[⟨⟨#[]⟩,0,[⟨1,⟨#[]⟩,0,[]⟩],0⟩]⟩,avR]⟩
theorem amB{I:Pr}(hI:I=al){M:Md}(hM:M= .al):qu I M 0=some T6:=by subst hI;subst hM;kernel_rfl
theorem amC{I:Pr}(hI:I=al){M:Md}(hM:M= .al):tB I M 100 ⟨[DJ fJ]⟩=some ⟨[DJ fJ]⟩:=by subst hI;subst hM;kernel_rfl
def aad:Code→Code
 | .seq a _=>a
 |c=>c
def Ha:Code→Code
 | .seq _ b=>b
 |c=>c
noncomputable def k0:Code:=aad c41
noncomputable def k1:Code:=aad (Ha c41)
noncomputable def k2:Code:=aad (Ha (Ha c41))
noncomputable def k3:Code:=aad (Ha (Ha (Ha c41)))
noncomputable def k4:Code:=Ha (Ha (Ha (Ha c41)))
theorem acM:c41=k0.seq (k1.seq (k2.seq (k3.seq k4))):=by kernel_rfl
def Sb(r:Nat)(k:ByteArray):List (List AV):=(ahZ k).map (bB .al r)
def GG(r:Nat)(k:ByteArray):List (List AV):=[[vs ⟨#[]⟩,vi 0,.sl r (Sb r k),vi 2]]
def s3(g:Nat→Option Ob)(nx:Nat):St:={n:=29,t:=[(0,.ptr (.s 0) 0),(1,.ptr (.s 1) 0),(2,.ptr (.s 2) 0)],b:=[(0,.box [.v gD]),(1,.box [.sl 1000000 (T6.ab.map (ay .al 1000000))]),(2,.box [vs fJ,vi 0,.sl 1000001 (GG 1000001 fJ)])],c:=[],g:=g,nx:=nx,up:=[],fl:=true}
def adv(R:St→Prop)(e:Ex)(s:St):Prop:=match e with
 | .normal=>R s
 |_=>False
theorem Zf{I:Pr}(hI:I=al){M:Md}(hM:M= .al)(call:pz)(hc:Any PP call)(g:Nat→Option Ob)(nx:Nat):
  qA (nP {I:=I,L:=L,ρ:=1000000,sh:=[],tree:=Jj,call:=call,op:=[4009],dead:=Ks,cl:=gL,keys:=lQ,eqs:=sO} (vy 42 (XC 1000000) (fun _=>none)) 1 0) (k0.seq (k1.seq k2)) (init 29 [] g nx true) (adv fun s'=>s'=s3 g nx):=by
 obtain⟨wrap,add,sub,mul,aU,bg,uT,seq,cat,beq,not,pick,SE,imax,fR,Py,app,DW,Kv,flat,chunk,rep,set,room,within,nat,CX,ny,nr⟩:=I;obtain⟨map,ln⟩:=M;cbv;refine⟨_,_,_,us hc (kN hI hM (amB hI hM) (r:=1000000)),?_⟩;cbv;refine⟨_,ao hM (x:=DJ fJ) rfl rfl,?_⟩;cbv;refine⟨_,cC (enc:=(ay ⟨map,ln⟩ 1000000)) (x:=DJ fJ) hM (ak _) rfl,?_⟩;cbv;refine⟨_,_,_,us hc (gF (n:=0) hI hM (a0:=[DJ fJ]) (v:=⟨[DJ fJ]⟩) rfl),?_⟩;cbv;refine⟨_,_,_,us hc (A5 hI hM (amC hI hM) (r:=1000001)),?_⟩;cbv;refine⟨_,ao hM (x:=DJ fJ) rfl rfl,?_⟩;cbv;unfold Md.al at hM;injection hM with e1 e2;subst e1;subst e2;rfl
def s4(g:Nat→Option Ob)(nx:Nat):St:={n:=29,t:=[(0,.ptr (.s 0) 0),(1,.ptr (.s 1) 0),(2,.ptr (.s 2) 0)],b:=[(0,.box [.v gD]),(1,.box [.sl 1000000 (T6.ab.map (ay .al 1000000))]),(2,.box [vs sf,vi 0,.sl 1000001 (GG 1000001 sf)])],c:=[],g:=g,nx:=nx,up:=[],fl:=true}
def aag:AV:= .agg [.sl 1000000 [ay .al 1000000 (DJ fJ),[vs sf,vi 0,.sl 1000001 (GG 1000001 sf)]]]
theorem als{I:Pr}(hI:I=al)(call:pz)(hc:Any PP call)(g:Nat→Option Ob)(nx:Nat):
  qA (nP {I:=I,L:=L,ρ:=1000000,sh:=[],tree:=Jj,call:=call,op:=[4009],dead:=Ks,cl:=gL,keys:=lQ,eqs:=sO} (vy 42 (XC 1000000) (fun _=>none)) 1 0) k4 (s4 g nx) (post (nP {I:=I,L:=L,ρ:=1000000,sh:=[],tree:=Jj,call:=call,op:=[4009],dead:=Ks,cl:=gL,keys:=lQ,eqs:=sO} (vy 42 (XC 1000000) (fun _=>none)) 1 0) [.cell 0 24] fun r1 g1 Ax=>KQ r1 aag∧g1=g∧Ax=nx):=by
 obtain⟨wrap,add,sub,mul,aU,bg,uT,seq,cat,beq,not,pick,SE,imax,fR,Py,app,DW,Kv,flat,chunk,rep,set,room,within,nat,CX,ny,nr⟩:=I;cbv;apply Exists.intro;refine⟨?_,?_⟩
 next=>
  cbv;refine⟨_,⟨by decide,rfl,rfl⟩,?_⟩;cbv;repeat'(first|exact Or.inl rfl|trivial|(apply And.intro)|(refine⟨_,blL rfl,?_⟩;cbv))
 refine⟨_,rfl,?_⟩;cbv;all_goals(repeat' apply And.intro)
 all_goals first|trivial|rfl
end Ab
namespace Ab
open Go
set_option maxHeartbeats 4000000
set_option maxRecDepth 100000
variable{P:Program}{E E' E0:Env}{w w' w0:World}{a a':Act}{s:St}{C:dx}
theorem arj(ok:Ok P C)(hm:P.follows .mixedOrders=true){x y z d:Code}(hx:cB C.cl C.tree x=true)(hy:cB C.cl C.tree y=true)(hz:cB C.cl C.tree z=true){R:St→Prop}{Q:Exit→Act→World→Prop}(h:bq E0 E w0 w s a)(hk:qA C (x.seq (y.seq z)) s (adv R))
  (hr: ∀{s':St} {E':Env} {a':Act} {w':World},R s'→bq E0 E' w0 w' s' a'→d.wpIn (WF none) 0 P Q a' w'):(x.seq (y.seq (z.seq d))).wpIn (WF none) 0 P Q a w:=by
 unfold qA at hk;refine wpIn_seq (wpIn_mono (eC ok hm x none (.inl rfl) hx h hk) fun e a1 w1 hq=>?_);cases e with
 |normal=>
  obtain⟨s1,E1,h1,h2⟩:=hq;dsimp only at h1;unfold qA at h1;refine wpIn_seq (wpIn_mono (eC ok hm y none (.inl rfl) hy h2 h1) fun e a2 w2 hq=>?_);cases e with
  |normal=>
   obtain⟨s2,E2,h3,h4⟩:=hq;refine wpIn_seq (wpIn_mono (eC ok hm z none (.inl rfl) hz h4 h3) fun e a3 w3 hq=>?_);cases e with
   |normal=>obtain⟨s3,E3,h5,h6⟩:=hq;exact hr h5 h6
   |exit k=>obtain⟨_,_,h5,_⟩:=hq;exact h5.elim
   |ret=>obtain⟨_,_,h5,_⟩:=hq;exact h5.elim
   |goto l=>exact hq.elim
   |panic c=>exact hq.elim
   |outgrown=>exact hq.elim
  |exit k=>obtain⟨_,_,h5,_⟩:=hq;exact h5.elim
  |ret=>obtain⟨_,_,h5,_⟩:=hq;exact h5.elim
  |goto l=>exact hq.elim
  |panic c=>exact hq.elim
  |outgrown=>exact hq.elim
 |exit k=>obtain⟨_,_,h5,_⟩:=hq;exact h5.elim
 |ret=>obtain⟨_,_,h5,_⟩:=hq;exact h5.elim
 |goto l=>exact hq.elim
 |panic c=>exact hq.elim
 |outgrown=>exact hq.elim
theorem bq.afR(h:bq E0 E w0 w s a)(dg:a'.tmps.size=s.n)(hd:a'.defers=a.defers)(hc:s.c=[])(ht: ∀d x,look d s.t=some x→a'.tmps.getD d undef=a.tmps.getD d undef):bq E0 E w0 w s a':=
 ⟨h.heap,h.wf,by have:=h.Kp;unfold PJ at this ⊢;rw[hd];exact this,h.up,dg,fun d x hl hp=>by rw[ht d x hl];exact h.tm d x hl hp,(fun d q hl=>by rw[hc]at hl;cases hl),h.bx,h.lv,h.gx,h.gl,h.ext,h.wI,h.same,h.gk,h.nl,h.ng,h.lo⟩
theorem PI{ops:Array Oper}{l:Array Bool}(dg:l.size=ops.size)(aod: ∀(i:Nat) (o:Oper),ops[i]? =some o→ ∀e∈o.after,e.on<i)(hr:Region.ready .any ops l=[]): ∀i,i<ops.size→l.getD i false=true:=by
 intro i
 induction i using Nat.strongRecOn with
 |_ i ih=>
  intro hi;cases hl:l.getD i false with
  |true=>rfl
  |false=>
   exfalso;have aV:i<l.size:=by omega
   have:i∈Region.ready .any ops l:=mem_ready.2 ⟨by
    simp only[Array.getD_eq_getD_getElem?,Array.getElem?_eq_getElem aV,Option.getD_some]at hl ⊢;exact hl,ops[i],by simp[hi],fun e he _=>ih e.on (aod i ops[i] (by simp[hi]) e he) (by
     have:=aod i ops[i] (by simp[hi]) e he
     omega)⟩
   rw[hr]at this;cases this
def aoM(ops:Array Oper):Bool:=(List.range ops.size).all fun i=>match ops[i]? with
 |some o=>o.after.toList.all fun e=>decide (e.on<i)
 |none=>true
theorem ai5{ops:Array Oper}(h:aoM ops=true): ∀(i:Nat) (o:Oper),ops[i]? =some o→ ∀e∈o.after,e.on<i:=fun i o ho e he=>by
 have hi:=(Array.getElem?_eq_some_iff.1 ho).1
 have:=List.all_eq_true.1 h i (List.mem_range.2 hi)
 rw[ho]at this;exact of_decide_eq_true (List.all_eq_true.1 this e (Array.mem_toList_iff.2 he))
def ai8(ops:Array Oper)(i j:Nat):Bool:=match ops[i]? with
 |some o=>o.after.toList.any fun e=>Region.binds .any e&&decide (e.on=j)
 |none=>false
theorem ai7{ops:Array Oper}{l:Array Bool}{i j:Nat}(hi:i∈Region.ready .any ops l)(h:ai8 ops i j=true):l.getD j false=true:=by
 obtain⟨_,o,ho,hd⟩:=mem_ready.1 hi;unfold ai8 at h;rw[ho]at h;obtain⟨e,he,hb⟩:=List.any_eq_true.1 h;simp only[Bool.and_eq_true]at hb;have h2:e.on=j:=of_decide_eq_true hb.2
 rw[←h2];exact hd e (Array.mem_toList_iff.1 he) hb.1
noncomputable def wG:Array Oper:=match k3 with
 | .region _ o _=>o
 |_=> #[]
theorem anf:k3= .region 3 wG true:=by kernel_rfl
theorem Lp:wG.size=10:=by kernel_rfl
theorem auY:aoM wG=true:=by kernel_rfl
theorem aoN:((List.range 10).all fun i=>(List.range 10).all fun j=> !nh i j||ai8 wG i j)=true:=by kernel_rfl
theorem lR{α:Type}{o:Option α}(h:o.isSome=true):o=some (o.get h):=by cases o with
 |none=>cases h
 |some x=>rfl
theorem Uk: ∀i,i<10→ ∃o,wG[i]? =some o∧o.guard=none∧o.op=(rT i).1∧o.dst=(rT i).2
 |0,_=>⟨wG[0]?.get (by kernel_rfl),lR _,by kernel_rfl,by kernel_rfl,by kernel_rfl⟩
 |1,_=>⟨wG[1]?.get (by kernel_rfl),lR _,by kernel_rfl,by kernel_rfl,by kernel_rfl⟩
 |2,_=>⟨wG[2]?.get (by kernel_rfl),lR _,by kernel_rfl,by kernel_rfl,by kernel_rfl⟩
 |3,_=>⟨wG[3]?.get (by kernel_rfl),lR _,by kernel_rfl,by kernel_rfl,by kernel_rfl⟩
 |4,_=>⟨wG[4]?.get (by kernel_rfl),lR _,by kernel_rfl,by kernel_rfl,by kernel_rfl⟩
 |5,_=>⟨wG[5]?.get (by kernel_rfl),lR _,by kernel_rfl,by kernel_rfl,by kernel_rfl⟩
 |6,_=>⟨wG[6]?.get (by kernel_rfl),lR _,by kernel_rfl,by kernel_rfl,by kernel_rfl⟩
 |7,_=>⟨wG[7]?.get (by kernel_rfl),lR _,by kernel_rfl,by kernel_rfl,by kernel_rfl⟩
 |8,_=>⟨wG[8]?.get (by kernel_rfl),lR _,by kernel_rfl,by kernel_rfl,by kernel_rfl⟩
 |9,_=>⟨wG[9]?.get (by kernel_rfl),lR _,by kernel_rfl,by kernel_rfl,by kernel_rfl⟩
 |n+10,h=>by omega
theorem abN(l:Array Bool)(i:Nat)(hi:i∈Region.ready .any wG l):i<10∧ ∀j,nh i j=true→l.getD j false=true:=by
 have By:i<10:=by
  obtain⟨_,o,ho,_⟩:=mem_ready.1 hi;have:=(Array.getElem?_eq_some_iff.1 ho).1
  rw[Lp]at this;exact this
 refine⟨By,fun j hj=>?_⟩;have at6:j<10:=by
  match i,By,hj with
  |0,_,hj=>simp[nh]at hj
  |1,_,hj=>unfold nh at hj;split at hj<;>first|omega|(simp at hj;omega)|cases hj
  |2,_,hj=>unfold nh at hj;split at hj<;>first|omega|(simp at hj;omega)|cases hj
  |3,_,hj=>unfold nh at hj;split at hj<;>first|omega|(simp at hj;omega)|cases hj
  |4,_,hj=>unfold nh at hj;split at hj<;>first|omega|(simp at hj;omega)|cases hj
  |5,_,hj=>unfold nh at hj;split at hj<;>first|omega|(simp at hj;omega)|cases hj
  |6,_,hj=>unfold nh at hj;split at hj<;>first|omega|(simp at hj;omega)|cases hj
  |7,_,hj=>unfold nh at hj;split at hj<;>first|omega|(simp at hj;omega)|cases hj
  |8,_,hj=>unfold nh at hj;split at hj<;>first|omega|(simp at hj;omega)|cases hj
  |9,_,hj=>unfold nh at hj;split at hj<;>first|omega|(simp at hj;omega)|cases hj
  |n+10,h,_=>omega
 have h1:=List.all_eq_true.1 (List.all_eq_true.1 aoN i (List.mem_range.2 By)) j (List.mem_range.2 at6)
 rw[hj]at h1;exact ai7 hi (by simpa using h1)
theorem Un{r:Nat}{xs:List (List AV)}{x:Value}(h:Cz E (.sl r xs) x)(hx:0<xs.length): ∃b o c,x= .slice (some ⟨b,o,none⟩) xs.length c∧E.dN b=r∧ ∀(q:Nat) (a:AV),xs.flatten[q]? =some a→E.aI b (o+q)∧ ∃y,aO E.h b (o+q)=some y∧Cz E a y:=by
 cases h with
 |mq=>simp at hx
 |sl _ _ z b o c u hp hc hm dw SF hr Xh hs hu hqq=>exact⟨b,o,c,rfl,hr,fun q a ha=>⟨hs q a ha,u q,hu q a ha,hqq q a ha⟩⟩
theorem X5{bb ob nb cb bo oo no co:Nat}(k:Yn E E' bo (oo+5) fJ)(hb:Cz E (.sl 1000001 (GG 1000001 fJ)) (.slice (some ⟨bb,ob,none⟩) nb cb))(ho:Cz E (.sl 1000001 (Sb 1000001 fJ)) (.slice (some ⟨bo,oo,none⟩) no co))
  (h2:aO E.h bb (ob+2)=some (.slice (some ⟨bo,oo,none⟩) no co))(zy:aO E'.h bo (oo+5)=some ia):Cz E' (.sl 1000001 (GG 1000001 sf)) (.slice (some ⟨bb,ob,none⟩) nb cb):=by
 have same: ∀{b o:Nat} {a:AV} {x:Value},aO E.h b o=some x→Cz E a x→JX (.string fJ) a→ ∃y,aO E'.h b o=some y∧Cz E' a y:=fun hx h hn=>⟨_,k.bw hx h hn,h.asx k hn⟩
 have aio: ∀k:ByteArray,k≠fJ→Value.string k≠ .string fJ:=fun k h e=>h (by injection e)
 have Mz: ∀y:Int,(Value.int .i64 y)≠ .string fJ:=fun y e=>by cases e
 have C6:Cz E' (.sl 1000001 (Sb 1000001 sf)) (.slice (some ⟨bo,oo,none⟩) no co):=by
  refine ho.slN (z:=4) (by decide) rfl (fun l hl=>?_) (fun l hl=>?_) (by decide) k.aI k.dN (fun q a' ha=>bf (cs:=(Sb 1000001 sf).flatten) rfl q a' ha) fun q a' a x h1 h2 h3 h4=>?_
  ·obtain⟨y,_,rfl⟩:=List.mem_map.1 hl;rfl
  ·obtain⟨y,_,rfl⟩:=List.mem_map.1 hl;rfl
  ·have SI: ∀(xs:List (List AV)),L4 (.string fJ) xs→JX (.string fJ) (.sl 1000001 xs):=fun xs h=>by simp only[JX];exact h
   have hv: ∀y:Value,y≠ .string fJ→JX (.string fJ) (.v y):=fun y h=>by simp only[JX];exact h
   match q,h1,h2 with
   |0,h1,h2=>cases h1;cases h2;exact same h3 h4 (hv _ (Mz _))
   |1,h1,h2=>cases h1;cases h2;exact same h3 h4 (hv _ (aio _ (by decide)))
   |2,h1,h2=>cases h1;cases h2;exact same h3 h4 (hv _ (Mz _))
   |3,h1,h2=>cases h1;cases h2;exact same h3 h4 (SI _ (by simp[L4,Md.al]))
   |4,h1,h2=>cases h1;cases h2;exact same h3 h4 (hv _ (Mz _))
   |5,h1,h2=>cases h1;exact⟨_,zy,.v _⟩
   |6,h1,h2=>cases h1;cases h2;exact same h3 h4 (hv _ (Mz _))
   |7,h1,h2=>cases h1;cases h2;exact same h3 h4 (SI _ (by simp[L4,Md.al]))
   |8,h1,h2=>cases h1;cases h2;exact same h3 h4 (hv _ (Mz _))
   |9,h1,h2=>cases h1;cases h2;exact same h3 h4 (hv _ (aio _ (by decide)))
   |10,h1,h2=>cases h1;cases h2;exact same h3 h4 (hv _ (Mz _))
   |11,h1,h2=>cases h1;cases h2;exact same h3 h4 (SI _ (by simp[L4,noL,JX,aq,vi,Md.al]))
   |n+12,h1,h2=>cases h1
 refine hb.slN (z:=4) (by decide) rfl (fun l hl=>?_) (fun l hl=>?_) (by decide) k.aI k.dN (fun q a' ha=>bf (cs:=(GG 1000001 sf).flatten) rfl q a' ha) fun q a' a x h1 SR h3 h4=>?_
 ·simp only[GG,List.mem_singleton]at hl;subst hl;rfl
 ·simp only[GG,List.mem_singleton]at hl;subst hl;rfl
 ·have hv: ∀y:Value,y≠ .string fJ→JX (.string fJ) (.v y):=fun y h=>by simp only[JX];exact h
  match q,h1,SR with
  |0,h1,SR=>cases h1;cases SR;exact same h3 h4 (hv _ (aio _ (by decide)))
  |1,h1,SR=>cases h1;cases SR;exact same h3 h4 (hv _ (Mz _))
  |2,h1,SR=>
   cases h1;refine⟨_,?_,C6⟩;rw[k.cell _ _ fun hh=>by
    obtain⟨rfl,hh⟩:=hh;rw[hh,k.was]at h2;cases h2]
   exact h2
  |3,h1,SR=>cases h1;cases SR;exact same h3 h4 (hv _ (Mz _))
  |n+4,h1,SR=>cases h1
def GA:pz:=fun _ f args g nx r g' iP=>ov PP f∧lA PP f args g nx r g' iP
theorem apo:Any PP GA:=⟨fun h1 h2=>⟨h1,h2⟩⟩
theorem okC{T:Nat→Option FI}(hT:bp PP gL T)(jh: ∀k,gL k=true→vP T k=false)(ρ:Nat)(tree:Nat→Tree)(dead:Nat→List Nat)(op:List Nat)(fuel:Nat):Ok PP (nP {I:=al,L:=L,ρ:=ρ,sh:=[],tree:=tree,call:=GA,op:=op,dead:=dead,cl:=gL,keys:=lQ,eqs:=sO} T fuel 0):=by
 obtain⟨hC,hCR⟩:=AF hT (C0:={I:=al,L:=L,ρ:=ρ,sh:=[],tree:=tree,call:=GA,op:=op,dead:=dead,cl:=gL,keys:=lQ,eqs:=sO}) lay rfl (fun _ _ _ _ _ _ _ _ h=>h) jh J5 QV mixed (n:=fuel) (base:=0);obtain⟨m1,m2,m3,m4,m5⟩:=Qr (C0:={I:=al,L:=L,ρ:=ρ,sh:=[],tree:=tree,call:=GA,op:=op,dead:=dead,cl:=gL,keys:=lQ,eqs:=sO}) (T:=T) (n:=fuel) (base:=0);exact⟨by rw[m1];exact lay,m2,fun ρ f args g nx r g' iP hh=>by rw[m3]at hh;exact hh,hC,hCR,OW,fun k hk=>by rw[m5];rw[m4]at hk;exact jh k hk,
  fun t ks hk=>by rw[(CY (T:=T) (n:=fuel) (base:=0)).1]at hk;exact J5 t ks hk,fun t ks hk=>by rw[(CY (T:=T) (n:=fuel) (base:=0)).2]at hk;exact QV t ks hk⟩
theorem aau{k:Key}{off:Nat}{x:Value}(h:Cz E (.ptr k off) x):x= .pointer (some ⟨E.m k,off,none⟩):=by cases h;rfl
noncomputable def CM:dx:=nP {I:=al,L:=L,ρ:=1000000,sh:=[],tree:=Jj,call:=GA,op:=[4009],dead:=Ks,cl:=gL,keys:=lQ,eqs:=sO} (vy 42 (XC 1000000) (fun _=>none)) 1 0
theorem okM:Ok PP CM:=okC (bp.cons (QU _) (sX PP gL)) (Kz (by kernel_rfl) (cl0 gL)) _ _ _ _ _
theorem alN(g:Nat→Option Ob)(nx:Nat)(hg: ∀i,g i=none)(h:bq E0 E w w (init 29 [] g nx true) a):c41.wpIn (WF none) 0 PP (Dr E0 w (post CM [.cell 0 24] fun r1 g1 Ax=>KQ r1 aag∧g1=g∧Ax=nx)) a w:=by
 rw[acM];refine arj okM mixed (by kernel_rfl) (by kernel_rfl) (by kernel_rfl) h (Zf rfl rfl GA apo g nx) fun{s' E1 a1 w1} hs h1=>?_;subst hs;refine wpIn_seq ?_;rw[anf];have b2:=h1.bx 2 _ rfl
 obtain⟨F5,c2,e2,hB2,Hi,SL,anC,hc2⟩:=b2;have anD:c2.size=3:=anC
 have abp:c2[2]? =some c2[2]:=by simp[anD]
 have Xj:=hc2 2 _ _ rfl abp
 obtain⟨bb,ob,cb,Ik,hrb,hbc⟩:=Un Xj (by decide);obtain⟨hsb,y2,hy2,SG⟩:=hbc 2 _ rfl;obtain⟨bo,oo,co,hxo,F0,hoc⟩:=Un SG (by decide);subst hxo;obtain⟨hso,y5,hy5,hz5⟩:=hoc 5 _ rfl;have hz5:=bN hz5
 subst hz5;obtain⟨cO,eO,hO⟩:=h1.wf.fz _ _ hso (by rw[F0];decide);have Ty:bo≠E1.m (.s 2):=fun e=>SL _ (by rw[←e];exact hso)
 have anT:bb≠E1.m (.s 2):=fun e=>SL _ (by rw[←e];exact hsb)
 have hO5:cO[oo+5]? =some (.string fJ):=by unfold aO at hy5;rw[hO]at hy5;exact hy5
 have aoo:oo+5<cO.size:=(Array.getElem?_eq_some_iff.1 hO5).1
 have hp2:a1.tmps.getD 2 undef= .pointer (some ⟨E1.m (.s 2),0,none⟩):=aau (h1.tm 2 _ rfl trivial)
 rw[Ik]at abp;have W1: ∀(j:Nat) (d:Bool),(Array.replicate 10 false).getD j false=true→False:=fun j d hh=>by
  simp only[Array.getD_eq_getD_getElem?,Array.getElem?_replicate]at hh
  split at hh<;>simp at hh
 refine wpIn_region_any mixed (qB (cl:=gL) none _ _ _ _ ?_);rw[Lp];refine am0 (w:={w1 with drawn:=w1.drawn+1}) (w0:=w1) (H:=E1.h) (base:=fun d=>a1.tmps.getD d undef) (df:=a1.defers) Uk abN hp2 hB2 (by omega) abp (by decide) hy2 (by decide) hO aoo Ty anT (fun l a' w' hi hr=>?_)
  ⟨by simp,?_,⟨rfl,rfl,rfl⟩,fun hh=>(W1 9 false hh).elim,fun hh=>(W1 8 false hh).elim,h1.sz,rfl,fun d _=>rfl,fun x _ hh=>(W1 _ false hh).elim⟩ 10 (by simp)
 ·
  have jN:=PI (ops:=wG) (by rw[hi.sz,Lp]) (ai5 auY) hr
  have MC:=hi.heap
  rw[jN 6 (by rw[Lp];decide),jN 9 (by rw[Lp];decide)]at MC;have aiC:E1.m (.s 2)<E1.h.size:=(Array.getElem?_eq_some_iff.1 hB2).1
  have an0:bo<E1.h.size:=(Array.getElem?_eq_some_iff.1 hO).1
  have h6:=h1.pB (w':={w' with heap:=E1.h.setIfInBounds (E1.m (.s 2)) (.cells (c2.setIfInBounds 0 ia) e2 (0,0))}) (d:=2) (ob0:=_) rfl (o:= .cells (c2.setIfInBounds 0 ia) e2 (0,0)) (ob:= .box [vs sf,vi 0,.sl 1000001 (GG 1000001 fJ)])
   (BC (off:=0) (vs:=[vs sf]) (ys:=[ia]) h1.wf F5 hB2 Hi SL ⟨anC,hc2⟩ (by decide) rfl fun q a y ha hy=>by
    cases q with
    |zero=>cases ha;cases hy;exact .v _
    |succ q=>simp at ha) (by rw[h1.heap]) hi.same Hi SL
  have aiW:=(Xj.ext (jl Hi SL (.cells (c2.setIfInBounds 0 ia) e2 (0,0))) h1.wf (fun _=>false) (fX _)).2 rfl
  have anQ:=(SG.ext (jl Hi SL (.cells (c2.setIfInBounds 0 ia) e2 (0,0))) h1.wf (fun _=>false) (fX _)).2 rfl
  generalize hE6:E1.write (.s 2) (.cells (c2.setIfInBounds 0 ia) e2 (0,0))=E6 at h6 aiW anQ;have h6h:E6.h=E1.h.setIfInBounds (E1.m (.s 2)) (.cells (c2.setIfInBounds 0 ia) e2 (0,0)):=by rw[←hE6];rfl
  have h6s:E6.aI=E1.aI:=by rw[←hE6];rfl
  have h6r:E6.dN=E1.dN:=by rw[←hE6];rfl
  have h6m:E6.m=E1.m:=by rw[←hE6];rfl
  have h6o:E6.h[bo]? =some (.cells cO eO (0,0)):=by rw[h6h,Array.getElem?_setIfInBounds_ne (Ne.symm Ty)];exact hO
  have DM:w'.heap=E6.h.setIfInBounds bo (.cells (cO.setIfInBounds (oo+5) ia) eO (0,0)):=by rw[MC,h6h];rfl
  have sp:ly E6 1000001 {w' with heap:=E1.h.setIfInBounds (E1.m (.s 2)) (.cells (c2.setIfInBounds 0 ia) e2 (0,0))} w':=by
   refine⟨⟨rfl,rfl,rfl⟩,by rw[DM];simp,fun b hb=>?_⟩;by_cases tK:b=bo
   ·subst tK;refine .inr ⟨cO,cO.setIfInBounds (oo+5) ia,eO,h6o,by rw[DM];simp[h6h,an0],by simp,fun o ho=>?_⟩;have:oo+5≠o:=fun e=>ho ⟨by rw[h6s,←e];exact hso,by rw[h6r];exact F0⟩
    rw[Array.getElem?_setIfInBounds_ne this]
   ·left;rw[DM,Array.getElem?_setIfInBounds_ne (Ne.symm tK)]
  have hnr:pC 1000001 (T6.ab.map (ay .al 1000000)):=zg (M:= .al) rfl (q:=1000000) (r:=1000001) (by decide) T6.ab
  have h9:=h6.dI (kp:=True) sp (by decide) rfl rfl hg (And.intro trivial (And.intro trivial (And.intro trivial trivial)))
   (And.intro (And.intro trivial trivial) (And.intro (And.intro hnr trivial) (And.intro (And.intro trivial (And.intro trivial (And.intro trivial trivial))) trivial))) trivial
  have cne: ∀{b o:Nat},b≠bo→aO w'.heap b o=aO E6.h b o:=fun{b o} hb=>by
   unfold aO;rw[DM,Array.getElem?_setIfInBounds_ne (Ne.symm hb)]
  have ceq: ∀o,aO w'.heap bo o=(cO.setIfInBounds (oo+5) ia)[o]? :=fun o=>by
   have:w'.heap[bo]? =some (.cells (cO.setIfInBounds (oo+5) ia) eO (0,0)):=by rw[DM];simp[h6h,an0]
   unfold aO;rw[this]
  have k:Yn E6 (E6.dI 1000001 True w') bo (oo+5) fJ:=by
   refine⟨fun b o hs=>⟨hs,.inl trivial⟩,fun _=>rfl,fun b o ct=>?_,by unfold aO;rw[h6o];exact hO5⟩;show aO w'.heap b o=_;by_cases hb:b=bo
   ·subst hb;have ho:oo+5≠o:=fun e=>ct ⟨rfl,e.symm⟩
    rw[ceq,Array.getElem?_setIfInBounds_ne ho];unfold aO;rw[h6o]
   ·exact cne hb
  have hy6:aO E6.h bb (ob+2)=some (.slice (some ⟨bo,oo,none⟩) (Sb 1000001 fJ).length co):=by
   have:E6.h[bb]? =E1.h[bb]? :=by rw[h6h,Array.getElem?_setIfInBounds_ne (Ne.symm anT)]
   unfold aO at hy2 ⊢;rw[this];exact hy2
  have zy:aO (E6.dI 1000001 True w').h bo (oo+5)=some ia:=by
   show aO w'.heap bo (oo+5)=_;rw[ceq];simp[aoo]
  rw[Ik]at aiW;have aiQ:=X5 k aiW anQ hy6 zy
  have By:=h9.alM (d:=2) (cs:=[vs sf,vi 0,.any]) (cs':=[vs sf,vi 0,.sl 1000001 (GG 1000001 sf)]) rfl rfl (fun c e hce q av x ha hx=>by
   have hce:w'.heap[E6.m (.s 2)]? =some (.cells c e (0,0)):=hce
   rw[DM,h6m,Array.getElem?_setIfInBounds_ne Ty,h6h]at hce;simp only[Array.getElem?_setIfInBounds_self_of_lt aiC,Option.some.injEq,Obj.cells.injEq]at hce;obtain⟨hce,_⟩:=hce;subst hce
   match q,ha,hx with
   |0,ha,hx=>
    cases ha;have:x=ia:=by simp[anD]at hx;exact hx.symm
    subst this;exact .v _
   |1,ha,hx=>
    cases ha;rw[Array.getElem?_setIfInBounds_ne (by decide)]at hx;have:=bN (hc2 1 _ _ rfl hx)
    subst this;exact .v _
   |2,ha,hx=>
    cases ha;rw[Array.getElem?_setIfInBounds_ne (by decide),abp]at hx;cases hx;exact aiQ
   |n+3,ha,hx=>cases ha)
  have Kg:bq E0 (E6.dI 1000001 True w') w w' (s4 g nx) a1:=By
  have qq:=Kg.afR (a':=a') hi.tm hi.df rfl (fun d x hl=>hi.base d (by
   have hl:look d [(0,AV.ptr (.s 0) 0),(1,.ptr (.s 1) 0),(2,.ptr (.s 2) 0)]=some x:=hl
   simp only[aC]at hl
   split at hl
   ·omega
   ·split at hl
    ·omega
    ·split at hl
     ·omega
     ·cases hl))
  exact eC okM mixed k4 none (.inl rfl) (by kernel_rfl) qq (als rfl GA apo g nx)
 ·exact h1.heap
theorem oE{I:Pr}(hI:I=al){M:Md}(hM:M= .al){n nx:Nat}{g:Nat→Option Ob}{v:af}(h:uK I M n=some v){r:Nat}(hr:r<1000000:=by decide):cv 41 [] (.agg (aZ M r v)) g nx:=by
 subst hM;obtain rfl:=oJ h;have e1:=Go.Proofs.Tryz.ntmps41
 have e2:Go.Proofs.Tryz.f41.results.toList=[.cell 0 24]:=by kernel_rfl
 have h1: ∀g:Nat→Option Ob,(∀i,g i=none)→ ∀nx,vq PP true 41 [] g nx fun r1 g1 Ax=>KQ r1 aag∧g1=g∧Ax=nx:=fun g hg nx=>
  vq.ofRaw okM Go.Proofs.Tryz.func41 (c:=c41) (by kernel_rfl) (by rw[e1];decide) true fun h=>by
   rw[e1]at h;rw[e2];exact alN g nx hg h
 exact⟨enters Go.Proofs.Tryz.func41 (c:=c41) (by kernel_rfl) (by kernel_rfl),vq.am5 h1 (fun r hr=>trivial) (by simp[aag,HiA,HiL,Yr,ay,DJ,GG,Sb,ahZ,az,bB,Md.al,vs,vi,aq]) rfl g nx hr⟩
end Ab
namespace Ab
open Go Go.Proofs.Tryz
set_option maxHeartbeats 100000000
set_option maxRecDepth 100000
variable{I:Pr}(hI:I=al){M:Md}(hM:M= .al){n nx r s p q u rl:Nat}{g:Nat→Option Ob}
 include hI hM
theorem xl{a0:ai}{a1:ByteArray}{v:Bool}(h:nC I M n a0 a1=some v):
  cv 144 [(.agg (ay M r a0)),(.aR r [(vs a1)] 0)] (vb v) g nx:=have _:=hM;by
 refine cS func144 avn r Zz ab6 [] 8 ntmps144 [.tmp 3] hI fun call hc=>?_;cbv;cases h;exact fin
 include hI hM
theorem pH{a0:List ai}{ba:ByteArray}{v:Int}(h:fP I M n a0 ba=some v):
  cv 92 [(.sl r (M.map (ay M r) a0)),(.fn (.func 144) [(.aR r [(vs ba)] 0)])] (vi v) g nx:=by
 refine cS func92 c92 r Jh Kq [] 19 ntmps92 [.tmp 4] hI fun call hc=>?_;cbv;refine letE h fun n1 dJ h=>⟨_,an hI hM dJ,?_⟩;cbv;refine lp h (fun z2=>[(8,(vi z2))]) (fun z2=>[]) fun mK m1 aW z2 h=>?_;dsimp only[jE]at h;cbv;refine si h (fun h=>?_) fun h=>by cbv;cases h;exact fin
 cbv;refine ag h fun x3 me h=>⟨_,ao hM me rfl,?_⟩;cbv;refine ag h fun y4 oc h=>⟨_,_,_,us hc (xl hI hM oc),?_⟩;cbv;refine si h (fun h=>by cbv;cases h;exact fin) fun h=>?_;cbv;exact bY (aW _ _ h)
 include hI hM
theorem fK{a0:ByteArray}{a1:af}{v:Int}(h:cV I M n a0 a1=some v):
  cv 143 [(vs a0),(.aR r (aZ M r a1) 0)] (vi v) g nx:=by
 refine cS func143 avo r ZA ab7 [] 8 ntmps143 [.tmp 3] hI fun call hc=>?_;cbv;refine ag h fun y1 c9 h=>⟨_,_,_,us hc (pH hI hM c9),?_⟩;cbv;cbv;cases h;exact fin
 include hI hM
theorem DV{a0:Int}{a1:Int}{v:Bool}(h:Be I M n a0 a1=some v):
  cv 146 [(vi a0),(.aR r [(vi a1)] 0)] (vb v) g nx:=have _:=hM;by
 refine cS func146 avl r Zx ab4 [] 11 ntmps146 [.tmp 3] hI fun call hc=>?_;cbv;cases h;exact fin
 include hI hM
theorem vj{a0:Int}{ba:Int}{v:Bool}(h:lu I M n a0 ba=some v):
  cv 157 [(vi a0),(.aR r [(.fn (.func 146) [(.aR r [(vi ba)] 0)])] 0)] (vb v) g nx:=by
 refine cS func157 ave r Zo abV [] 8 ntmps157 [.tmp 3] hI fun call hc=>?_;cbv;refine ag h fun y1 c9 h=>⟨_,_,_,us hc (DV hI hM c9),?_⟩;cbv;cbv;cases h;exact fin
 include hI hM
theorem rh{a0:List Int}{rp:Int}{v:Int}(h:mn I M n a0 rp=some v):
  cv 159 [(.sl r (M.map aq a0)),(.fn (.func 157) [(.aR r [(.fn (.func 146) [(.aR r [(vi rp)] 0)])] 0)])] (vi v) g nx:=by
 refine cS func159 ake r Jk Kt [] 19 ntmps159 [.tmp 4] hI fun call hc=>?_;cbv;refine letE h fun n1 dJ h=>⟨_,an hI hM dJ,?_⟩;cbv;refine lp h (fun z2=>[(8,(vi z2))]) (fun z2=>[]) fun mK m1 aW z2 h=>?_;dsimp only[kS]at h;cbv;refine si h (fun h=>?_) fun h=>by cbv;cases h;exact fin
 cbv;refine ag h fun x3 me h=>⟨_,ao hM me rfl,?_⟩;cbv;refine ag h fun y4 oc h=>⟨_,_,_,us hc (vj hI hM oc),?_⟩;cbv;refine si h (fun h=>by cbv;cases h;exact fin) fun h=>?_;cbv;exact bY (aW _ _ h)
 include hI hM
theorem pt{a0:List Int}{rp:Int}{v:Bool}(h:fy I M n a0 rp=some v):
  cv 148 [(.sl r (M.map aq a0)),(.fn (.func 157) [(.aR r [(.fn (.func 146) [(.aR r [(vi rp)] 0)])] 0)])] (vb v) g nx:=by
 refine cS func148 akf r Jl Ku [] 9 ntmps148 [.tmp 4] hI fun call hc=>?_;cbv;refine ag h fun y1 c9 h=>⟨_,_,_,us hc (rh hI hM c9),?_⟩;cbv;cbv;cases h;exact fin
 include hI hM
theorem xj{a0:List Int}{ba:Int}{v:Bool}(h:jJ I M n a0 ba=some v):
  cv 145 [(.sl r (M.map aq a0)),(.fn (.func 146) [(.aR r [(vi ba)] 0)])] (vb v) g nx:=by
 refine cS func145 avm r Zy ab5 [] 9 ntmps145 [.tmp 4] hI fun call hc=>?_;cbv;refine ag h fun y1 c9 h=>⟨_,_,_,us hc (pt hI hM c9),?_⟩;cbv;cbv;cases h;exact fin
 include hI hM
theorem tP{a0:ByteArray}{v:(List Bool)×Bool}(h:jQ I M n a0=some v):
  cv 162 [(vs a0)] (.gw [(.ar 256 1 (M.map bV v.1)),(vb v.2)]) g nx:=by
 obtain⟨r,_⟩: ∃x:Nat,x=0:=⟨_,rfl⟩;refine cS func162 ava r Zk abR [] 21 ntmps162 [.cell 2 159,.tmp 3] hI fun call hc=>?_;cbv;refine letE h fun l1 OF h=>⟨_,⟨rfl,gA (enc:=bV) hI hM OF rfl⟩,?_⟩;cbv;refine lp h (fun(l2,z3)=>[(4,(vi z3))]) (fun(l2,z3)=>[(2,.arr 1 (M.map bV l2))]) fun mK m1 aW st h=>?_;obtain⟨l2,z3⟩:=st;dsimp only[mQ]at h;cbv;refine letE h fun n4 He h=>⟨_,gS hI He,?_⟩;cbv;refine si h (fun h=>?_) fun h=>?_
 ·cbv;refine ag h fun x5 rC h=>⟨_,oF rC,?_⟩;cbv;refine si h (fun h=>?_) fun h=>?_
  ·cbv;refine ag h fun u6 qu6 h=>?_
   (first|refine⟨⟨rfl,aS hI hM qu6,rfl⟩,?_⟩|refine⟨⟨aS hI hM qu6,trivial⟩,?_⟩|refine⟨aS hI hM qu6,?_⟩)
   cbv;refine ag h fun u7 qu7 h=>?_
   (first|refine⟨⟨rfl,rfl,rfl,aS hI hM qu7,rfl,(by have hq:=dq (enc:=bV) hM (fun _=>rfl) l2;rw[ep.eq_def]at hq;exact hq)⟩,?_⟩|refine⟨⟨aS hI hM qu7,(by have hq:=dq (enc:=bV) hM (fun _=>rfl) l2;rw[ep.eq_def]at hq;exact hq)⟩,?_⟩)
   cbv;refine ag h fun u8 qu8 h=>?_;obtain rfl:=oJ h;cbv;(all_goals(repeat' apply And.intro));all_goals first|trivial|rfl|exact(aJ hM)|exact aS hI hM qu8
  cbv;refine ag h fun k9 qk9 h=>?_
  (first|refine⟨_,⟨rfl,rfl,aK hI qk9⟩,?_⟩|refine⟨_,aK hI qk9,?_⟩)
  cbv;refine ag h fun Dz BN h=>?_;refine ag h fun zX VG h=>⟨_,mU hI hM BN VG (by decide) rfl rfl,?_⟩;cbv;exact bY (aW _ _ h)
 cbv;refine ag h fun u14 agG h=>?_
 (first|refine⟨⟨rfl,aS hI hM agG,rfl⟩,?_⟩|refine⟨⟨aS hI hM agG,trivial⟩,?_⟩|refine⟨aS hI hM agG,?_⟩)
 cbv;refine ag h fun u15 ame h=>?_
 (first|refine⟨⟨rfl,rfl,rfl,aS hI hM ame,rfl,(by have hq:=dq (enc:=bV) hM (fun _=>rfl) l2;rw[ep.eq_def]at hq;exact hq)⟩,?_⟩|refine⟨⟨aS hI hM ame,(by have hq:=dq (enc:=bV) hM (fun _=>rfl) l2;rw[ep.eq_def]at hq;exact hq)⟩,?_⟩)
 cbv;refine ag h fun u16 Oj h=>?_;obtain rfl:=oJ h;cbv;all_goals(repeat' apply And.intro)
 all_goals first|trivial|rfl|exact(aJ hM)|exact aS hI hM Oj
 include hI hM
theorem tO{a0:ByteArray}{a1:Int}{v:ByteArray}(h:oH I M n a0 a1=some v):
  cv 160 [(vs a0),(.v (.int .u8 a1))] (vs v) g nx:=have _:=hM;by
 obtain⟨r,_⟩: ∃x:Nat,x=0:=⟨_,rfl⟩;refine cS func160 avc r Zm abT [] 17 ntmps160 [.tmp 4] hI fun call hc=>?_;cbv;refine lp h (fun z1=>[(0,(vs z1))]) (fun z1=>[]) fun mK m1 aW z1 h=>?_;dsimp only[mP]at h;cbv;refine letE h fun n2 oC h=>⟨_,gS hI oC,?_⟩;cbv;refine ag h fun x3 me h=>⟨_,fun hp=>oF (aD me hp.1),?_⟩;cbv;refine si h (fun h=>?_) fun h=>by cbv;cases h;exact fin
 cbv;refine ag h fun s4 qs4 h=>⟨_,Gw hI qs4,?_⟩;cbv;exact bY (aW _ _ h)
 include hI hM
theorem sK{a0:ByteArray}{a1:Int}{v:ByteArray}(h:nT I M n a0 a1=some v):
  cv 161 [(vs a0),(.v (.int .u8 a1))] (vs v) g nx:=have _:=hM;by
 obtain⟨r,_⟩: ∃x:Nat,x=0:=⟨_,rfl⟩;refine cS func161 avb r Zl abS [] 23 ntmps161 [.tmp 4] hI fun call hc=>?_;cbv;refine lp h (fun z1=>[(0,(vs z1))]) (fun z1=>[]) fun mK m1 aW z1 h=>?_;dsimp only[mh]at h;cbv;refine letE h fun n2 oC h=>⟨_,gS hI oC,?_⟩;cbv;refine⟨_,gS hI oC,?_⟩;cbv;refine ag h fun x3 me h=>⟨_,fun hp=>oF (aD me hp.1),?_⟩;cbv;refine si h (fun h=>?_) fun h=>by cbv;cases h;exact fin
 cbv;refine⟨_,gS hI oC,?_⟩;cbv;refine ag h fun s4 qs4 h=>⟨_,Kx hI qs4,?_⟩;cbv;exact bY (aW _ _ h)
 include hI hM
theorem DP{a0:ByteArray}{a1:ByteArray}{v:ByteArray}(h:kC I M n a0 a1=some v):
  cv 156 [(vs a0),(vs a1)] (vs v) g nx:=by
 obtain⟨r,_⟩: ∃x:Nat,x=0:=⟨_,rfl⟩;refine yi func156 avf r Zp abW [] 43 ntmps156 [.tmp 4] hI (bp.cons (XD r) (bp.cons (XE r) (bp.cons (XF r) (sX PP gL)))) 8 fun call hc=>?_;cbv;refine si h (fun h=>by cbv;cases h;exact fin) fun h=>?_;cbv;refine letE h fun n1 dJ h=>⟨_,gS hI dJ,?_⟩;cbv;refine ag h fun x2 YE h=>⟨_,fun hp=>oF (aD YE hp.1),?_⟩;cbv;refine si h (fun h=>?_) fun h=>?_
 ·cbv;refine ag h fun x3 me h=>?_;refine ag h fun y4 oc h=>?_;refine ag h fun y5 Jz h=>?_;apply Exists.intro;refine⟨?_,_,rfl,?_⟩
  ·cbv;(repeat' first|exact .inl rfl|exact trivial|(refine⟨_,oF me,?_⟩;cbv)|(refine⟨_,_,_,us hc (sK hI hM oc),?_⟩;cbv)|(refine⟨_,_,_,us hc (tO hI hM Jz),?_⟩;cbv)|apply And.intro);all_goals exact bn
  cbv;cases h;exact fin
 cbv;refine ag h fun y6 Ao h=>⟨_,_,_,us hc (tP hI hM Ao),?_⟩;cbv;refine letE h fun l7 ql7 h=>⟨_,⟨rfl,gA (enc:=bV) hI hM ql7 rfl⟩,?_⟩;cbv;refine ag h fun u8 qu8 h=>?_
 (first|refine⟨⟨rfl,rfl,rfl,aS hI hM qu8,rfl,(by have hq:=dq (enc:=bV) hM (fun _=>rfl) y6.1;rw[ep.eq_def]at hq;exact hq)⟩,?_⟩|refine⟨⟨aS hI hM qu8,(by have hq:=dq (enc:=bV) hM (fun _=>rfl) y6.1;rw[ep.eq_def]at hq;exact hq)⟩,?_⟩)
 cbv;refine si h (fun h=>?_) fun h=>?_
 ·as_aux_lemma=>
   cbv;refine lp h (fun z9=>[(0,(vs z9))]) (fun z9=>[]) fun mK m1 aW z9 h=>?_;dsimp only[cQ]at h;cbv;refine letE h fun BW BR h=>⟨_,gS hI BR,?_⟩;cbv;refine si h (fun h=>?_) fun h=>?_
   ·as_aux_lemma=>
     cbv;refine⟨_,gS hI BR,?_⟩;cbv;refine ag h fun Ac DC h=>⟨_,oF DC,?_⟩;cbv;refine ag h fun k12 amz h=>?_
     (first|refine⟨_,⟨rfl,rfl,aK hI amz⟩,?_⟩|refine⟨_,aK hI amz,?_⟩)
     cbv;refine ag h fun GU JF h=>⟨_,_,rfl,bA hM JF,rfl,?_⟩;cbv;refine si h (fun h=>?_) fun h=>?_
     ·cbv;refine lp h (fun Bz=>[(0,(vs Bz))]) (fun Bz=>[]) fun D0 m2 eM Bz h=>?_;dsimp only[cj]at h;cbv;refine letE h fun CW BP h=>⟨_,gS hI BP,?_⟩;cbv;refine si h (fun h=>?_) fun h=>(by cbv;cases h;exact fin);cbv;refine ag h fun pA zb h=>⟨_,oF zb,?_⟩;cbv;refine ag h fun WT DD h=>?_
      (first|refine⟨_,⟨rfl,rfl,aK hI DD⟩,?_⟩|refine⟨_,aK hI DD,?_⟩)
      cbv;refine ag h fun KP Ap h=>⟨_,_,rfl,bA hM Ap,rfl,?_⟩;cbv;refine si h (fun h=>by cbv;cases h;exact fin) fun h=>?_;cbv;refine ag h fun s21 agH h=>⟨_,Gw hI agH,?_⟩;cbv;exact bY (eM _ _ h)
     cbv;refine⟨_,gS hI BR,?_⟩;cbv;refine ag h fun s22 ar0 h=>⟨_,Kx hI ar0,?_⟩;cbv;exact bY (aW _ _ h)
   cbv;refine lp h (fun Bz=>[(0,(vs Bz))]) (fun Bz=>[]) fun D0 m2 eM Bz h=>?_;dsimp only[cj]at h;cbv;refine letE h fun CW BP h=>⟨_,gS hI BP,?_⟩;cbv;refine si h (fun h=>?_) fun h=>(by cbv;cases h;exact fin);cbv;refine ag h fun pA zb h=>⟨_,oF zb,?_⟩;cbv;refine ag h fun WT DD h=>?_
   (first|refine⟨_,⟨rfl,rfl,aK hI DD⟩,?_⟩|refine⟨_,aK hI DD,?_⟩)
   cbv;refine ag h fun KP Ap h=>⟨_,_,rfl,bA hM Ap,rfl,?_⟩;cbv;refine si h (fun h=>by cbv;cases h;exact fin) fun h=>?_;cbv;refine ag h fun s21 agH h=>⟨_,Gw hI agH,?_⟩;cbv;exact bY (eM _ _ h)
 cbv;cases h
 include hI hM
theorem sN{a0:ByteArray}{v:Bool}(h:om I M n a0=some v):
  cv 140 [(vs a0)] (vb v) g nx:=by
 obtain⟨r,_⟩: ∃x:Nat,x=0:=⟨_,rfl⟩;refine cS func140 avr r ZD aca [] 16 ntmps140 [.tmp 2] hI fun call hc=>?_;cbv;refine letE h fun n1 dJ h=>⟨_,gS hI dJ,?_⟩;cbv;refine⟨_,gS hI dJ,?_⟩;cbv;refine ag h fun y2 uz h=>⟨_,fun hp=>us hc (DP hI hM (aD uz hp.1)),?_⟩;cbv;cbv;cases h;exact fin
 include hI hM
 include hI hM
 include hI hM
 include hI hM
theorem A6{a0:Int}{a1:List Bool}{v:Bool}(h:nz I M n a0 a1=some v):
  cv 158 [(vi a0),(.aR rl [(.sl r (M.map bV a1))] 0)] (vb v) g nx:=by
 refine cS func158 avd r Zn abU [] 8 ntmps158 [.tmp 3] hI fun call hc=>?_;cbv;refine ag h fun x1 qx1 h=>⟨_,ao hM qx1 rfl,?_⟩;cbv;cbv;cases h;exact fin
 include hI hM
theorem rf{a0:List Int}{ba:List Bool}{v:Int}(h:mm I M n a0 ba=some v):
  cv 159 [(.sl r (M.map aq a0)),(.fn (.func 158) [(.aR rl [(.sl r (M.map bV ba))] 0)])] (vi v) g nx:=by
 refine cS func159 ake r Jk Kt [] 19 ntmps159 [.tmp 4] hI fun call hc=>?_;cbv;refine letE h fun n1 dJ h=>⟨_,an hI hM dJ,?_⟩;cbv;refine lp h (fun z2=>[(8,(vi z2))]) (fun z2=>[]) fun mK m1 aW z2 h=>?_;dsimp only[kR]at h;cbv;refine si h (fun h=>?_) fun h=>by cbv;cases h;exact fin
 cbv;refine ag h fun x3 me h=>⟨_,ao hM me rfl,?_⟩;cbv;refine ag h fun y4 oc h=>⟨_,_,_,us hc (A6 hI hM oc),?_⟩;cbv;refine si h (fun h=>by cbv;cases h;exact fin) fun h=>?_;cbv;exact bY (aW _ _ h)
 include hI hM
theorem pq{a0:List Int}{ba:List Bool}{v:Bool}(h:fx I M n a0 ba=some v):
  cv 148 [(.sl r (M.map aq a0)),(.fn (.func 158) [(.aR rl [(.sl r (M.map bV ba))] 0)])] (vb v) g nx:=by
 refine cS func148 akf r Jl Ku [] 9 ntmps148 [.tmp 4] hI fun call hc=>?_;cbv;refine ag h fun y1 c9 h=>⟨_,_,_,us hc (rf hI hM c9),?_⟩;cbv;cbv;cases h;exact fin
 include hI hM
theorem Km{a0:List aH}{v:List Bool}(h:xU I M n a0=some v):
  cv 147 [(.sl r (M.map (bB M r) a0))] (.sl r (M.map bV v)) g nx:=by
 refine cS func147 avk r Zw ab3 [3] 33 ntmps147 [.tmp 2] hI fun call hc=>?_;cbv;refine letE h fun n1 dJ h=>⟨_,an hI hM dJ,?_⟩;cbv;refine lp h (fun(l2,z3)=>[(9,(vi z3))]) (fun(l2,z3)=>[(3,.box [(.gs r (.c 3 0) (M.map bV l2))])]) fun mK m1 aW st h=>?_;obtain⟨l2,z3⟩:=st;dsimp only[pw]at h;cbv;refine si h (fun h=>?_) fun h=>by cbv;cases h;exact fin
 cbv;refine ag h fun x4 vW h=>⟨_,ao hM vW rfl,?_⟩;cbv;refine ag h fun y5 Jz h=>⟨fun _=>rfl,(vb y5),fun hp=>fun ρ=>by cbv;exact us hc (pq hI hM (aD (aD Jz hp.1) hp.2.1)),?_⟩;cbv;refine⟨_,cC (enc:=bV) (x:=(I.pick (I.aU x4.kind 5) true (I.pick (I.aU x4.kind 3) y5 false))) hM (ak _) rfl,?_⟩;cbv;refine ag h fun l6 Vv h=>⟨_,ax (enc:=bV) hI hM Vv (fun _=>rfl) rfl (fun _=>rfl),?_⟩;cbv;exact bY (aW _ _ h)
 include hI hM
theorem DU{a0:Int}{a1:List Bool}{v:Bool}(h:qs I M n a0 a1=some v):
  cv 149 [(vi a0),(.aR r [(.sl r (M.map bV a1))] 0)] (vb v) g nx:=by
 refine cS func149 avj r Zv ab2 [] 8 ntmps149 [.tmp 3] hI fun call hc=>?_;cbv;refine ag h fun x1 qx1 h=>⟨_,ao hM qx1 rfl,?_⟩;cbv;cbv;cases h;exact fin
 include hI hM
theorem re{a0:List Int}{ba:List Bool}{v:Int}(h:ml I M n a0 ba=some v):
  cv 159 [(.sl r (M.map aq a0)),(.fn (.func 149) [(.aR r [(.sl r (M.map bV ba))] 0)])] (vi v) g nx:=by
 refine cS func159 ake r Jk Kt [] 19 ntmps159 [.tmp 4] hI fun call hc=>?_;cbv;refine letE h fun n1 dJ h=>⟨_,an hI hM dJ,?_⟩;cbv;refine lp h (fun z2=>[(8,(vi z2))]) (fun z2=>[]) fun mK m1 aW z2 h=>?_;dsimp only[kQ]at h;cbv;refine si h (fun h=>?_) fun h=>by cbv;cases h;exact fin
 cbv;refine ag h fun x3 me h=>⟨_,ao hM me rfl,?_⟩;cbv;refine ag h fun y4 oc h=>⟨_,_,_,us hc (DU hI hM oc),?_⟩;cbv;refine si h (fun h=>by cbv;cases h;exact fin) fun h=>?_;cbv;exact bY (aW _ _ h)
 include hI hM
theorem po{a0:List Int}{ba:List Bool}{v:Bool}(h:fw I M n a0 ba=some v):
  cv 148 [(.sl r (M.map aq a0)),(.fn (.func 149) [(.aR r [(.sl r (M.map bV ba))] 0)])] (vb v) g nx:=by
 refine cS func148 akf r Jl Ku [] 9 ntmps148 [.tmp 4] hI fun call hc=>?_;cbv;refine ag h fun y1 c9 h=>⟨_,_,_,us hc (re hI hM c9),?_⟩;cbv;cbv;cases h;exact fin
 include hI hM
theorem Po{a0:af}{a1:ai}{a2:ah}{a3:Int}{v:Int}(h:Bf I M n a0 a1 a2 a3=some v):
  cv 108 [(.agg (aZ M r a0)),(.agg (ay M r a1)),(.agg (az M r a2)),(vi a3)] (vi v) g nx:=by
 refine yi func108 avJ r Z1 acB [] 147 ntmps108 [.tmp 8] hI (bp.cons (Gi r) (sX PP gL)) 8 fun call hc=>?_;cbv;refine ag h fun x1 qx1 h=>⟨_,ao hM qx1 rfl,?_⟩;cbv;apply Exists.intro;refine⟨?_,_,rfl,?_⟩
 ·cbv;repeat' first|exact .inl rfl|exact trivial|apply And.intro
  all_goals exact bn
 cbv;refine⟨_,Qm (enc:=(Gr aq aq)) hM,?_⟩;cbv;refine ag h fun l2 R7 h=>⟨_,⟨rfl,Qp (f:=aq) (g:=aq) hI hM (n:=1) (fun _=>rfl) Gs R7 rfl rfl⟩,?_⟩;cbv;refine ag h fun l3 To h=>⟨_,⟨rfl,Qp (f:=aq) (g:=aq) hI hM (n:=1) (fun _=>rfl) Gs To rfl rfl⟩,?_⟩;cbv;refine letE h fun x4 vW h=>⟨_,⟨rfl,rfl,rfl,WG (f:=aq) (g:=aq) hM (n:=1) (fun _=>rfl) Gs (av:=(fun y=>(vi y))) (fun _=>rfl) vW rfl (eb _)⟩,?_⟩;cbv;refine si h (fun h=>by cbv;cases h;exact fin) fun h=>?_;cbv;refine ag h fun y5 Jz h=>⟨_,fun hp=>us hc (sN hI hM (aD (aD Jz hp.1) hp.2.1)),?_⟩;cbv;refine si h (fun h=>by cbv;cases h;exact fin) fun h=>?_;cbv;refine si h (fun h=>by cbv;cases h;exact fin) fun h=>?_;cbv;refine letE h fun n6 YF h=>⟨_,an hI hM YF,?_⟩;cbv;refine⟨_,an hI hM YF,?_⟩;cbv;refine si h (fun h=>by cbv;cases h;exact fin) fun h=>?_;cbv;refine ag h fun y7 Jy h=>⟨_,_,_,us hc (xj hI hM Jy),?_⟩;cbv;refine ag h fun y8 N2 h=>⟨_,fun hp=>us hc (fK hI hM (aD (aD N2 hp.1) hp.2.1)),?_⟩;cbv;refine si h (fun h=>by cbv;cases h;exact fin) fun h=>?_;cbv;refine si h (fun h=>by cbv;cases h;exact fin) fun h=>?_;cbv;refine ag h fun l9 ql9 h=>⟨_,Kw hI hM ql9 (fun _=>rfl),?_⟩;cbv;refine ag h fun yU wq h=>⟨_,_,_,us hc (Km hI hM wq),?_⟩;cbv;refine ag h fun uf BM h=>?_;refine ag h fun v3 vL h=>?_;refine ag h fun ue za h=>?_;apply Exists.intro;refine⟨?_,_,rfl,?_⟩
 ·cbv;repeat' first|exact .inl rfl|exact trivial|(refine⟨_,an hI hM YF,?_⟩;cbv)|(refine⟨_,_,_,us hc (fK hI hM BM),?_⟩;cbv)|(refine⟨_,ao hM vL rfl,?_⟩;cbv)|(refine⟨_,fun hp=>us hc (po hI hM (aD za hp.1)),?_⟩;cbv)|apply And.intro
  all_goals exact bn
 cbv;exact si h (fun h=>by cbv;cases h;exact fin) fun h=>by cbv;cases h;exact fin
 include hI hM
theorem DT{a0:ah}{v:Bool}(h:Bc I M n a0=some v):
  cv 138 [(.agg (az M r a0))] (vb v) g nx:=by
 refine cS func138 avt r ZF acd [] 13 ntmps138 [.tmp 2] hI fun call hc=>?_;cbv;refine letE h fun n1 dJ h=>⟨_,an hI hM dJ,?_⟩;cbv;refine⟨_,an hI hM dJ,?_⟩;cbv;cbv;cases h;exact fin
 include hI hM
theorem rP{a0:ah}{v:Bool}(h:iO I M n a0=some v):
  cv 155 [(.agg (az M r a0)),(.aR r [(.fn (.func 138) [])] 0)] (vb v) g nx:=by
 refine cS func155 acO r Ee Eu [] 8 ntmps155 [.tmp 3] hI fun call hc=>?_;cbv;refine ag h fun y1 c9 h=>⟨_,_,_,us hc (DT hI hM c9),?_⟩;cbv;cbv;cases h;exact fin
 include hI hM
theorem ph{a0:List ah}{v:Int}(h:jX I M n a0=some v):
  cv 93 [(.sl r (M.map (az M r) a0)),(.fn (.func 155) [(.aR r [(.fn (.func 138) [])] 0)])] (vi v) g nx:=by
 refine cS func93 c93 r um vk [] 19 ntmps93 [.tmp 4] hI fun call hc=>?_;cbv;refine letE h fun n1 dJ h=>⟨_,an hI hM dJ,?_⟩;cbv;refine lp h (fun z2=>[(8,(vi z2))]) (fun z2=>[]) fun mK m1 aW z2 h=>?_;dsimp only[iY]at h;cbv;refine si h (fun h=>?_) fun h=>by cbv;cases h;exact fin
 cbv;refine ag h fun x3 me h=>⟨_,ao hM me rfl,?_⟩;cbv;refine ag h fun y4 oc h=>⟨_,_,_,us hc (rP hI hM oc),?_⟩;cbv;refine si h (fun h=>by cbv;cases h;exact fin) fun h=>?_;cbv;exact bY (aW _ _ h)
 include hI hM
theorem nt{a0:List ah}{v:Bool}(h:iw I M n a0=some v):
  cv 35 [(.sl r (M.map (az M r) a0)),(.fn (.func 155) [(.aR r [(.fn (.func 138) [])] 0)])] (vb v) g nx:=by
 refine cS func35 c35 r yY zH [] 9 ntmps35 [.tmp 4] hI fun call hc=>?_;cbv;refine ag h fun y1 c9 h=>⟨_,_,_,us hc (ph hI hM c9),?_⟩;cbv;cbv;cases h;exact fin
 include hI hM
theorem tY{a0:List ah}{v:Bool}(h:ko I M n a0=some v):
  cv 137 [(.sl r (M.map (az M r) a0)),(.fn (.func 138) [])] (vb v) g nx:=by
 refine cS func137 acP r Ef Ev [] 9 ntmps137 [.tmp 4] hI fun call hc=>?_;cbv;refine ag h fun y1 c9 h=>⟨_,_,_,us hc (nt hI hM c9),?_⟩;cbv;cbv;cases h;exact fin
 include hI hM
theorem DS{a0:ah}{v:Bool}(h:Bb I M n a0=some v):
  cv 139 [(.agg (az M r a0))] (vb v) g nx:=have _:=hM;by
 refine cS func139 avs r ZE acb [] 11 ntmps139 [.tmp 2] hI fun call hc=>?_;cbv;cases h;exact fin
 include hI hM
theorem rO{a0:ah}{v:Bool}(h:iN I M n a0=some v):
  cv 155 [(.agg (az M r a0)),(.aR r [(.fn (.func 139) [])] 0)] (vb v) g nx:=by
 refine cS func155 acO r Ee Eu [] 8 ntmps155 [.tmp 3] hI fun call hc=>?_;cbv;refine ag h fun y1 c9 h=>⟨_,_,_,us hc (DS hI hM c9),?_⟩;cbv;cbv;cases h;exact fin
 include hI hM
theorem pf{a0:List ah}{v:Int}(h:jW I M n a0=some v):
  cv 93 [(.sl r (M.map (az M r) a0)),(.fn (.func 155) [(.aR r [(.fn (.func 139) [])] 0)])] (vi v) g nx:=by
 refine cS func93 c93 r um vk [] 19 ntmps93 [.tmp 4] hI fun call hc=>?_;cbv;refine letE h fun n1 dJ h=>⟨_,an hI hM dJ,?_⟩;cbv;refine lp h (fun z2=>[(8,(vi z2))]) (fun z2=>[]) fun mK m1 aW z2 h=>?_;dsimp only[iX]at h;cbv;refine si h (fun h=>?_) fun h=>by cbv;cases h;exact fin
 cbv;refine ag h fun x3 me h=>⟨_,ao hM me rfl,?_⟩;cbv;refine ag h fun y4 oc h=>⟨_,_,_,us hc (rO hI hM oc),?_⟩;cbv;refine si h (fun h=>by cbv;cases h;exact fin) fun h=>?_;cbv;exact bY (aW _ _ h)
 include hI hM
theorem nq{a0:List ah}{v:Bool}(h:iv I M n a0=some v):
  cv 35 [(.sl r (M.map (az M r) a0)),(.fn (.func 155) [(.aR r [(.fn (.func 139) [])] 0)])] (vb v) g nx:=by
 refine cS func35 c35 r yY zH [] 9 ntmps35 [.tmp 4] hI fun call hc=>?_;cbv;refine ag h fun y1 c9 h=>⟨_,_,_,us hc (pf hI hM c9),?_⟩;cbv;cbv;cases h;exact fin
 include hI hM
theorem tX{a0:List ah}{v:Bool}(h:kn I M n a0=some v):
  cv 137 [(.sl r (M.map (az M r) a0)),(.fn (.func 139) [])] (vb v) g nx:=by
 refine cS func137 acP r Ef Ev [] 9 ntmps137 [.tmp 4] hI fun call hc=>?_;cbv;refine ag h fun y1 c9 h=>⟨_,_,_,us hc (nq hI hM c9),?_⟩;cbv;cbv;cases h;exact fin
 include hI hM
theorem pR{a0:ah}{v:Bool}(h:kO I M n a0=some v):
  cv 133 [(.agg (az M r a0))] (vb v) g nx:=have _:=hM;by
 refine cS func133 avx r ZJ ach [] 6 ntmps133 [.tmp 2] hI fun call hc=>?_;cbv;cases h;exact fin
 include hI hM
theorem zF{a0:ah}{v:Bool}(h:ma I M n a0=some v):
  cv 141 [(.agg (az M r a0)),(.aR r [(.fn (.func 133) [])] 0)] (vb v) g nx:=by
 refine cS func141 avq r ZC ab9 [] 12 ntmps141 [.tmp 3] hI fun call hc=>?_;cbv;refine ag h fun y1 c9 h=>⟨_,_,_,us hc (pR hI hM c9),?_⟩;cbv;refine ag h fun y2 uz h=>⟨_,fun hp=>us hc (sN hI hM (aD uz hp.1)),?_⟩;cbv;cbv;cases h;exact fin
 include hI hM
theorem rN{a0:ah}{v:Bool}(h:iM I M n a0=some v):
  cv 155 [(.agg (az M r a0)),(.aR r [(.fn (.func 141) [(.aR r [(.fn (.func 133) [])] 0)])] 0)] (vb v) g nx:=by
 refine cS func155 acO r Ee Eu [] 8 ntmps155 [.tmp 3] hI fun call hc=>?_;cbv;refine ag h fun y1 c9 h=>⟨_,_,_,us hc (zF hI hM c9),?_⟩;cbv;cbv;cases h;exact fin
 include hI hM
theorem pd{a0:List ah}{v:Int}(h:jV I M n a0=some v):
  cv 93 [(.sl r (M.map (az M r) a0)),(.fn (.func 155) [(.aR r [(.fn (.func 141) [(.aR r [(.fn (.func 133) [])] 0)])] 0)])] (vi v) g nx:=by
 refine cS func93 c93 r um vk [] 19 ntmps93 [.tmp 4] hI fun call hc=>?_;cbv;refine letE h fun n1 dJ h=>⟨_,an hI hM dJ,?_⟩;cbv;refine lp h (fun z2=>[(8,(vi z2))]) (fun z2=>[]) fun mK m1 aW z2 h=>?_;dsimp only[iW]at h;cbv;refine si h (fun h=>?_) fun h=>by cbv;cases h;exact fin
 cbv;refine ag h fun x3 me h=>⟨_,ao hM me rfl,?_⟩;cbv;refine ag h fun y4 oc h=>⟨_,_,_,us hc (rN hI hM oc),?_⟩;cbv;refine si h (fun h=>by cbv;cases h;exact fin) fun h=>?_;cbv;exact bY (aW _ _ h)
 include hI hM
theorem np{a0:List ah}{v:Bool}(h:iu I M n a0=some v):
  cv 35 [(.sl r (M.map (az M r) a0)),(.fn (.func 155) [(.aR r [(.fn (.func 141) [(.aR r [(.fn (.func 133) [])] 0)])] 0)])] (vb v) g nx:=by
 refine cS func35 c35 r yY zH [] 9 ntmps35 [.tmp 4] hI fun call hc=>?_;cbv;refine ag h fun y1 c9 h=>⟨_,_,_,us hc (pd hI hM c9),?_⟩;cbv;cbv;cases h;exact fin
 include hI hM
theorem tW{a0:List ah}{v:Bool}(h:km I M n a0=some v):
  cv 137 [(.sl r (M.map (az M r) a0)),(.fn (.func 141) [(.aR r [(.fn (.func 133) [])] 0)])] (vb v) g nx:=by
 refine cS func137 acP r Ef Ev [] 9 ntmps137 [.tmp 4] hI fun call hc=>?_;cbv;refine ag h fun y1 c9 h=>⟨_,_,_,us hc (np hI hM c9),?_⟩;cbv;cbv;cases h;exact fin
 include hI hM
theorem rM{a0:ah}{v:Bool}(h:iL I M n a0=some v):
  cv 155 [(.agg (az M r a0)),(.aR r [(.fn (.func 133) [])] 0)] (vb v) g nx:=by
 refine cS func155 acO r Ee Eu [] 8 ntmps155 [.tmp 3] hI fun call hc=>?_;cbv;refine ag h fun y1 c9 h=>⟨_,_,_,us hc (pR hI hM c9),?_⟩;cbv;cbv;cases h;exact fin
 include hI hM
theorem pb{a0:List ah}{v:Int}(h:jT I M n a0=some v):
  cv 93 [(.sl r (M.map (az M r) a0)),(.fn (.func 155) [(.aR r [(.fn (.func 133) [])] 0)])] (vi v) g nx:=by
 refine cS func93 c93 r um vk [] 19 ntmps93 [.tmp 4] hI fun call hc=>?_;cbv;refine letE h fun n1 dJ h=>⟨_,an hI hM dJ,?_⟩;cbv;refine lp h (fun z2=>[(8,(vi z2))]) (fun z2=>[]) fun mK m1 aW z2 h=>?_;dsimp only[iU]at h;cbv;refine si h (fun h=>?_) fun h=>by cbv;cases h;exact fin
 cbv;refine ag h fun x3 me h=>⟨_,ao hM me rfl,?_⟩;cbv;refine ag h fun y4 oc h=>⟨_,_,_,us hc (rM hI hM oc),?_⟩;cbv;refine si h (fun h=>by cbv;cases h;exact fin) fun h=>?_;cbv;exact bY (aW _ _ h)
 include hI hM
theorem nk{a0:List ah}{v:Bool}(h:ir I M n a0=some v):
  cv 35 [(.sl r (M.map (az M r) a0)),(.fn (.func 155) [(.aR r [(.fn (.func 133) [])] 0)])] (vb v) g nx:=by
 refine cS func35 c35 r yY zH [] 9 ntmps35 [.tmp 4] hI fun call hc=>?_;cbv;refine ag h fun y1 c9 h=>⟨_,_,_,us hc (pb hI hM c9),?_⟩;cbv;cbv;cases h;exact fin
 include hI hM
theorem tV{a0:List ah}{v:Bool}(h:kj I M n a0=some v):
  cv 137 [(.sl r (M.map (az M r) a0)),(.fn (.func 133) [])] (vb v) g nx:=by
 refine cS func137 acP r Ef Ev [] 9 ntmps137 [.tmp 4] hI fun call hc=>?_;cbv;refine ag h fun y1 c9 h=>⟨_,_,_,us hc (nk hI hM c9),?_⟩;cbv;cbv;cases h;exact fin
 include hI hM
theorem zE{a0:ah}{a2:ai}{v:Bool}(h:lZ I M n a0 a2=some v):
  cv 142 [(.agg (az M r a0)),(.aR r [(.fn (.func 133) [])] 0),(.aR r (ay M r a2) 0)] (vb v) g nx:=by
 refine cS func142 avp r ZB ab8 [] 19 ntmps142 [.tmp 4] hI fun call hc=>?_;cbv;refine ag h fun y1 c9 h=>⟨_,_,_,us hc (pR hI hM c9),?_⟩;cbv;refine letE h fun n2 oC h=>⟨_,an hI hM oC,?_⟩;cbv;cbv;cases h;exact fin
 include hI hM
theorem pc{a0:List ah}{vU:ai}{v:Int}(h:jU I M n a0 vU=some v):
  cv 93 [(.sl r (M.map (az M r) a0)),(.fn (.func 142) [(.aR r [(.fn (.func 133) [])] 0),(.aR r (ay M r vU) 0)])] (vi v) g nx:=by
 refine cS func93 c93 r um vk [] 19 ntmps93 [.tmp 4] hI fun call hc=>?_;cbv;refine letE h fun n1 dJ h=>⟨_,an hI hM dJ,?_⟩;cbv;refine lp h (fun z2=>[(8,(vi z2))]) (fun z2=>[]) fun mK m1 aW z2 h=>?_;dsimp only[iV]at h;cbv;refine si h (fun h=>?_) fun h=>by cbv;cases h;exact fin
 cbv;refine ag h fun x3 me h=>⟨_,ao hM me rfl,?_⟩;cbv;refine ag h fun y4 oc h=>⟨_,_,_,us hc (zE hI hM oc),?_⟩;cbv;refine si h (fun h=>by cbv;cases h;exact fin) fun h=>?_;cbv;exact bY (aW _ _ h)
 include hI hM
theorem nn{a0:List ah}{vU:ai}{v:Bool}(h:ed I M n a0 vU=some v):
  cv 35 [(.sl r (M.map (az M r) a0)),(.fn (.func 142) [(.aR r [(.fn (.func 133) [])] 0),(.aR r (ay M r vU) 0)])] (vb v) g nx:=by
 refine cS func35 c35 r yY zH [] 9 ntmps35 [.tmp 4] hI fun call hc=>?_;cbv;refine ag h fun y1 c9 h=>⟨_,_,_,us hc (pc hI hM c9),?_⟩;cbv;cbv;cases h;exact fin
 include hI hM
theorem xi{a0:ah}{a1:ah}{v:Bool}(h:nB I M n a0 a1=some v):
  cv 135 [(.agg (az M r a0)),(.aR r (az M r a1) 0)] (vb v) g nx:=have _:=hM;by
 refine cS func135 avv r ZH acf [] 16 ntmps135 [.tmp 3] hI fun call hc=>?_;cbv;cases h;exact fin
 include hI hM
theorem o9{a0:List ah}{ba:ah}{v:Int}(h:fv I M n a0 ba=some v):
  cv 93 [(.sl r (M.map (az M r) a0)),(.fn (.func 135) [(.aR r (az M r ba) 0)])] (vi v) g nx:=by
 refine cS func93 c93 r um vk [] 19 ntmps93 [.tmp 4] hI fun call hc=>?_;cbv;refine letE h fun n1 dJ h=>⟨_,an hI hM dJ,?_⟩;cbv;refine lp h (fun z2=>[(8,(vi z2))]) (fun z2=>[]) fun mK m1 aW z2 h=>?_;dsimp only[iS]at h;cbv;refine si h (fun h=>?_) fun h=>by cbv;cases h;exact fin
 cbv;refine ag h fun x3 me h=>⟨_,ao hM me rfl,?_⟩;cbv;refine ag h fun y4 oc h=>⟨_,_,_,us hc (xi hI hM oc),?_⟩;cbv;refine si h (fun h=>by cbv;cases h;exact fin) fun h=>?_;cbv;exact bY (aW _ _ h)
 include hI hM
theorem xh{a0:ah}{a1:ah}{v:Bool}(h:nA I M n a0 a1=some v):
  cv 136 [(.agg (az M r a0)),(.aR r (az M r a1) 0)] (vb v) g nx:=have _:=hM;by
 refine cS func136 avu r ZG ace [] 16 ntmps136 [.tmp 3] hI fun call hc=>?_;cbv;cases h;exact fin
 include hI hM
theorem o8{a0:List ah}{ba:ah}{v:Int}(h:fu I M n a0 ba=some v):
  cv 93 [(.sl r (M.map (az M r) a0)),(.fn (.func 136) [(.aR r (az M r ba) 0)])] (vi v) g nx:=by
 refine cS func93 c93 r um vk [] 19 ntmps93 [.tmp 4] hI fun call hc=>?_;cbv;refine letE h fun n1 dJ h=>⟨_,an hI hM dJ,?_⟩;cbv;refine lp h (fun z2=>[(8,(vi z2))]) (fun z2=>[]) fun mK m1 aW z2 h=>?_;dsimp only[iR]at h;cbv;refine si h (fun h=>?_) fun h=>by cbv;cases h;exact fin
 cbv;refine ag h fun x3 me h=>⟨_,ao hM me rfl,?_⟩;cbv;refine ag h fun y4 oc h=>⟨_,_,_,us hc (xh hI hM oc),?_⟩;cbv;refine si h (fun h=>by cbv;cases h;exact fin) fun h=>?_;cbv;exact bY (aW _ _ h)
 include hI hM
theorem zG{a0:ah}{a1:ai}{v:Bool}(h:jj I M n a0 a1=some v):
  cv 134 [(.agg (az M r a0)),(.aR r (ay M r a1) 0)] (vb v) g nx:=by
 refine cS func134 avw r ZI acg [] 19 ntmps134 [.tmp 3] hI fun call hc=>?_;cbv;refine ag h fun y1 c9 h=>⟨_,_,_,us hc (o9 hI hM c9),?_⟩;cbv;refine ag h fun l2 R7 h=>⟨_,acF hI hM R7 (fun _=>rfl),?_⟩;cbv;refine ag h fun y3 JA h=>⟨_,_,_,us hc (o8 hI hM JA),?_⟩;cbv;cbv;cases h;exact fin
 include hI hM
theorem pa{a0:List ah}{ba:ai}{v:Int}(h:jS I M n a0 ba=some v):
  cv 93 [(.sl r (M.map (az M r) a0)),(.fn (.func 134) [(.aR r (ay M r ba) 0)])] (vi v) g nx:=by
 refine cS func93 c93 r um vk [] 19 ntmps93 [.tmp 4] hI fun call hc=>?_;cbv;refine letE h fun n1 dJ h=>⟨_,an hI hM dJ,?_⟩;cbv;refine lp h (fun z2=>[(8,(vi z2))]) (fun z2=>[]) fun mK m1 aW z2 h=>?_;dsimp only[iT]at h;cbv;refine si h (fun h=>?_) fun h=>by cbv;cases h;exact fin
 cbv;refine ag h fun x3 me h=>⟨_,ao hM me rfl,?_⟩;cbv;refine ag h fun y4 oc h=>⟨_,_,_,us hc (zG hI hM oc),?_⟩;cbv;refine si h (fun h=>by cbv;cases h;exact fin) fun h=>?_;cbv;exact bY (aW _ _ h)
 include hI hM
theorem nj{a0:List ah}{ba:ai}{v:Bool}(h:cN I M n a0 ba=some v):
  cv 35 [(.sl r (M.map (az M r) a0)),(.fn (.func 134) [(.aR r (ay M r ba) 0)])] (vb v) g nx:=by
 refine cS func35 c35 r yY zH [] 9 ntmps35 [.tmp 4] hI fun call hc=>?_;cbv;refine ag h fun y1 c9 h=>⟨_,_,_,us hc (pa hI hM c9),?_⟩;cbv;cbv;cases h;exact fin
 include hI hM
theorem Ho{a0:ai}{v:Int}(h:vl I M n a0=some v):
  cv 106 [(.agg (ay M r a0))] (vi v) g nx:=by
 refine cS func106 avK r Z3 acD [] 71 ntmps106 [.tmp 2] hI fun call hc=>?_;cbv;refine letE h fun n1 dJ h=>⟨_,an hI hM dJ,?_⟩;cbv;refine⟨_,an hI hM dJ,?_⟩;cbv;refine ag h fun y2 uz h=>⟨_,fun hp=>us hc (tY hI hM (aD uz hp.1)),?_⟩;cbv;refine si h (fun h=>by cbv;cases h;exact fin) fun h=>?_;cbv;refine ag h fun y3 JA h=>⟨_,fun hp=>us hc (tX hI hM (aD JA hp.1)),?_⟩;cbv;refine si h (fun h=>by cbv;cases h;exact fin) fun h=>?_;cbv;refine ag h fun y4 oc h=>⟨_,_,_,us hc (sN hI hM oc),?_⟩;cbv;refine ag h fun y5 Jz h=>⟨_,fun hp=>us hc (tW hI hM (aD Jz hp.1)),?_⟩;cbv;refine si h (fun h=>by cbv;cases h;exact fin) fun h=>?_;cbv;refine ag h fun y6 Ao h=>⟨_,_,_,us hc (nn hI hM Ao),?_⟩;cbv;refine si h (fun h=>by cbv;cases h;exact fin) fun h=>?_;cbv;refine ag h fun y7 Jy h=>⟨_,fun hp=>us hc (tV hI hM (aD Jy hp.1)),?_⟩;cbv;refine si h (fun h=>by cbv;cases h;exact fin) fun h=>?_;cbv;refine ag h fun y8 N2 h=>⟨_,_,_,us hc (nj hI hM N2),?_⟩;cbv;exact si h (fun h=>by cbv;cases h;exact fin) fun h=>by cbv;cases h;exact fin
 include hI hM
theorem dh{a0:af}{v:Int}(h:dV I M n a0=some v):
  cv 49 [(.agg (aZ M r a0))] (vi v) g nx:=by
 refine yi func49 c49 r afl ajJ [] 95 ntmps49 [.tmp 2] hI (bp.cons (Gi r) (sX PP gL)) 8 fun call hc=>?_;cbv;refine letE h fun n1 dJ h=>⟨_,an hI hM dJ,?_⟩;cbv;refine⟨_,an hI hM dJ,?_⟩;cbv;refine si h (fun h=>by cbv;cases h;exact fin) fun h=>?_;cbv;refine⟨_,an hI hM dJ,?_⟩;cbv;refine lp h (fun z2=>[(27,(vi z2))]) (fun z2=>[]) fun mK m1 aW z2 h=>?_;dsimp only[nH]at h;cbv;refine si h (fun h=>?_) fun h=>?_
 ·cbv;refine ag h fun x3 me h=>⟨_,ao hM me rfl,?_⟩;cbv;refine ag h fun y4 oc h=>⟨_,_,_,us hc (Ho hI hM oc),?_⟩;cbv;refine si h (fun h=>by cbv;cases h;exact fin) fun h=>?_;cbv;exact bY (aW _ _ h)
 cbv;refine letE h fun n6 YF h=>⟨_,an hI hM YF,?_⟩;cbv;refine lp h (fun z7=>[(40,(vi z7))]) (fun z7=>[]) fun D0 m2 eM z7 h=>?_;dsimp only[nG]at h;cbv;refine si h (fun h=>?_) fun h=>?_
 ·cbv;refine ag h fun x8 qx8 h=>⟨_,ao hM qx8 rfl,?_⟩;cbv;refine ag h fun j9 hj h=>?_;refine aY none [(51,(vb j9)),(6,.any),(7,.any)] [] g nx ?_ ?_
  ·replace h:=hj;cbv;refine⟨?_,?_⟩
   ·refine⟨?_,trivial⟩;refine ag h fun yU wq h=>⟨_,_,_,us hc (fK hI hM wq),?_⟩;cbv;cases h;first|exact Or.inl rfl|exact bn
   refine⟨?_,trivial⟩;refine⟨?_,trivial⟩;refine⟨?_,trivial⟩;refine ag h fun yU wq h=>⟨_,_,_,us hc (fK hI hM wq),?_⟩;cbv;cases h;first|exact Or.inl rfl|exact bn
  clear hj;cbv;refine si h (fun h=>by cbv;cases h;exact fin) fun h=>?_;cbv;exact bY (eM _ _ h)
 cbv;refine letE h fun n12 ar8 h=>⟨_,an hI hM ar8,?_⟩;cbv;refine lp h (fun lV=>[(56,(vi lV))]) (fun lV=>[]) fun Nl m3 jO lV h=>?_;dsimp only[nF]at h;cbv;refine si h (fun h=>?_) fun h=>by cbv;cases h;exact fin
 cbv;refine ag h fun yp Ft h=>⟨_,ao hM Ft rfl,?_⟩;cbv;refine letE h fun n15 ag7 h=>⟨_,an hI hM ag7,?_⟩;cbv;refine lp h (fun kr=>[(57,.any),(63,(vi kr))]) (fun kr=>[]) fun Tf m4 ni kr h=>?_;dsimp only[nE]at h;cbv;refine si h (fun h=>?_) fun h=>?_
 ·as_aux_lemma=>
   cbv;refine ag h fun pA zb h=>⟨_,ao hM zb rfl,?_⟩;cbv;refine letE h fun OU Ov h=>⟨_,an hI hM Ov,?_⟩;cbv;refine lp h (fun fM=>[(70,(vi fM))]) (fun fM=>[]) fun TG m5 oX fM h=>?_;dsimp only[nD]at h;cbv;refine si h (fun h=>?_) fun h=>?_
   ·cbv;refine ag h fun PW N4 h=>⟨_,_,_,us hc (Po hI hM N4),?_⟩;cbv;refine si h (fun h=>by cbv;cases h;exact fin) fun h=>?_;cbv;exact bY (oX _ _ h)
   cbv;refine letE h fun n22 ag4 h=>⟨_,an hI hM ag4,?_⟩;cbv;refine si h (fun h=>by cbv;cases h;exact fin) fun h=>?_;cbv;exact bY (ni _ _ h)
 cbv;exact bY (jO _ _ h)
 include hI hM
 include hI hM
theorem aT{zQ:ByteArray}{zP:Int}{GM:List aH}{zO:Int}{ou:List Int}{a1:List Int}{v:List Int}(h:bD I M n zQ zP GM zO ou a1=some v):
  cv 55 [(.aR rl [(vs zQ),(vi zP),(.sl r (M.map (bB M r) GM)),(vi zO),(.sl r (M.map aq ou)),(.v .nilFunc)] 0),(.sl p (M.map aq a1))] (.sl r (M.map aq v)) g nx:=by
 refine cS func55 c55 r Ji Kr [] 26 ntmps55 [.tmp 4] hI fun call hc=>?_;cbv;refine letE h fun n1 dJ h=>⟨_,an hI hM dJ,?_⟩;cbv;refine lp h (fun(z2,l3)=>[(5,(.gs r (.l 23) (M.map aq l3))),(10,(vi z2))]) (fun _=>[]) fun mK m1 aW st h=>?_;obtain⟨z2,l3⟩:=st;dsimp only[dp]at h;cbv;refine si h (fun h=>?_) fun h=>by cbv;cases h;exact fin
 cbv;refine ag h fun x4 vW h=>⟨_,ao hM vW rfl,?_⟩;cbv;refine ag h fun x5 rC h=>⟨_,ao hM rC rfl,?_⟩;cbv;refine⟨_,cC (enc:=aq) (x:=x5) hM (ak _) rfl,?_⟩;cbv;refine ag h fun l6 Vv h=>⟨_,ax (enc:=aq) hI hM Vv (fun _=>rfl) rfl (fun _=>rfl),?_⟩;cbv;exact bY (aW _ _ h)
end Ab
