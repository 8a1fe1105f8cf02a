/- PassesPuts holds of every core (no condition): a part of the proof: an abstract interpreter of the code that is proved sound, models of the functions, and laws of these models. -/
import Derived.Test.YtcdinjhcnhepeaaGreatDoorP02
import Derived.Test.YtcdinjhcnhepeaaGreatDoorP03
import Derived.Test.YtcdinjhcnhepeaaGreatDoorP14
import Derived.Test.YtcdinjhcnhepeaaGreatDoorP04
import Derived.Test.YtcdinjhcnhepeaaGreatDoorP11
import Derived.Test.YtcdinjhcnhepeaaGreatDoorP07
import Derived.Test.YtcdinjhcnhepeaaGreatDoorP12
set_option linter.unusedVariables false
set_option linter.unusedSimpArgs false
namespace Ab
open Go Go.Proofs.Tryz
set_option maxHeartbeats 100000000
set_option maxRecDepth 100000
variable{I:Pr}(hI:I=an){M:Md}(hM:M= .an){n nx r s p q u rl:Nat}{g:Nat→Option Ob}
 include hI hM
theorem p6{v:Bool}(h:nM I M n=some v):
  bQ 8 [] (vb v) g nx:=by
 refine yc func8 c8 0 FC akd [4020,4025,4030,4046,4051,4089,5009,5011] 155 ntmps8 [.tmp 0] hI (bh.cons (Od 0) (bh.cons (X0 0) (sL PP fQ))) 8 (hd:=d8_) fun call hc=>?_
 cbv
 refine ae h fun y1 cR h=>⟨_,_,_,us hc (jH hI hM cR (r:=0)),?_⟩;cbv
 refine ae h fun y2 qX h=>⟨_,_,_,us hc (sw hI hM qX (r:=0)),?_⟩;cbv
 refine ae h fun y3 Hl h=>⟨_,_,_,us hc (jH hI hM Hl (r:=0)),?_⟩;cbv
 refine ae h fun y4 lC h=>⟨_,_,_,us hc (jG hI hM lC (r:=0)),?_⟩;cbv
 refine ae h fun y5 Dh h=>⟨_,_,_,us hc (jH hI hM Dh (r:=0)),?_⟩;cbv
 refine ae h fun y6 wE h=>⟨_,_,_,us hc (Fi hI hM wE),?_⟩;cbv
 refine ae h fun y7 Hj h=>⟨_,_,_,us hc (rA hI hM Hj (r:=0)),?_⟩;cbv
 refine ae h fun y8 O1 h=>⟨_,_,_,us hc (fe hI hM O1 (r:=0)),?_⟩;cbv
 refine ae h fun y9 Hi h=>⟨_,_,_,us hc (vD hI hM Hi (r:=0)),?_⟩;cbv
 refine ae h fun qT nc h=>⟨_,_,_,us hc (ix hI hM nc (r:=0)),?_⟩;cbv
 refine ae h fun rJ rU h=>⟨_,_,_,us hc (zA hI hM rU),?_⟩;cbv
 refine ae h fun CG Dl h=>⟨_,_,_,us hc (ix hI hM Dl (r:=0)),?_⟩;cbv
 refine ae h fun ov pH h=>⟨_,_,_,us hc (B9 hI hM pH),?_⟩;cbv
 refine ae h fun EK Dk h=>?_
 (refine⟨_,_,_,us hc ((aJ (r:=0) hI hM Dk).wk ?_),?_⟩;next=>exact⟨aA _,aA _,aA _,(aH hM),trivial⟩)
 cbv
 refine ae h fun Ft Dj h=>?_
 (refine⟨_,_,_,us hc ((aJ (r:=0) hI hM Dj).wk ?_),?_⟩;next=>exact⟨aA _,aA _,aA _,(aH hM),trivial⟩)
 cbv
 refine⟨_,gR (enc:=ao) (l:=[0,1]) hM ⟨⟨(ah _),rfl⟩,⟨(ah _),rfl⟩,trivial⟩,?_⟩;cbv
 refine ae h fun IK LB h=>⟨_,_,_,us hc (aJ hI hM LB),?_⟩;cbv
 refine⟨_,gR (enc:=(aW M 0)) (l:=[EK,Ft,IK]) hM ⟨⟨(ah _),rfl⟩,⟨(ah _),rfl⟩,⟨(ah _),rfl⟩,trivial⟩,?_⟩;cbv
 refine ae h fun y17 acj h=>⟨_,_,_,us hc (aG hI hM acj),?_⟩;cbv
 refine ae h fun QC Rn h=>⟨_,_,_,us hc (aB hI hM Rn),?_⟩;cbv
 as_aux_lemma=>
  refine ae h fun y19 amz h=>?_
  (refine⟨_,_,_,us hc ((aJ (r:=0) hI hM amz).wk ?_),?_⟩;next=>exact⟨aA _,aA _,aA _,(aH hM),trivial⟩)
  cbv
  refine⟨_,bJ (enc:=(aW M 0)) (x:=y19) hM (ah _) rfl,?_⟩;cbv
  refine ae h fun Qa LA h=>⟨_,_,_,us hc (aG hI hM LA),?_⟩;cbv
  refine ae h fun Vn aci h=>⟨_,_,_,us hc (aB hI hM aci),?_⟩;cbv
  refine ae h fun UW Rm h=>?_
  (refine⟨_,_,_,us hc ((aJ (r:=0) hI hM Rm).wk ?_),?_⟩;next=>exact⟨aA _,aA _,aA _,(aH hM),trivial⟩)
  cbv
  refine⟨_,bJ (enc:=ao) (x:=0) hM (ah _) rfl,?_⟩;cbv
  refine ae h fun y23 ach h=>⟨_,_,_,us hc (aJ hI hM ach),?_⟩;cbv
  refine ae h fun Zn acg h=>?_
  (refine⟨_,_,_,us hc ((aJ (r:=0) hI hM acg).wk ?_),?_⟩;next=>exact⟨aA _,aA _,aA _,(aH hM),trivial⟩)
  cbv
  refine⟨_,gR (enc:=ao) (l:=[1,2]) hM ⟨⟨(ah _),rfl⟩,⟨(ah _),rfl⟩,trivial⟩,?_⟩;cbv
  refine ae h fun Vm Rl h=>⟨_,_,_,us hc (aJ hI hM Rl),?_⟩;cbv
  refine⟨_,gR (enc:=(aW M 0)) (l:=[UW,y23,Zn,Vm]) hM ⟨⟨(ah _),rfl⟩,⟨(ah _),rfl⟩,⟨(ah _),rfl⟩,⟨(ah _),rfl⟩,trivial⟩,?_⟩;cbv
  refine ae h fun y26 acf h=>⟨_,_,_,us hc (aG hI hM acf),?_⟩;cbv
  refine ae h fun y27 amy h=>⟨_,_,_,us hc (aB hI hM amy),?_⟩;cbv
  refine⟨_,gR (enc:=(aq M 0)) (l:=[QC,Vn,y27]) hM ⟨⟨(ah _),rfl⟩,⟨(ah _),rfl⟩,⟨(ah _),rfl⟩,trivial⟩,?_⟩;cbv
  as_aux_lemma=>
   refine ae h fun QB WS h=>?_
   refine ae h fun y29 ace h=>?_
   refine ae h fun Gz Hk h=>?_
   refine ae h fun CF xB h=>?_
   refine ae h fun y32 Lz h=>?_
   refine ae h fun k33 SF h=>?_
   refine ae h fun Zs Ji h=>?_
   refine ae h fun l35 L4 h=>?_
   apply Exists.intro;refine⟨?_,_,rfl,?_⟩
   ·cbv
    refine⟨?_,?_⟩
    ·(refine⟨_,_,_,us hc ((aJ (r:=0) hI hM WS).wk ?_),?_⟩;next=>exact⟨aA _,aA _,aA _,(aH hM),trivial⟩)
     cbv
     refine⟨?_,?_⟩
     ·(refine⟨_,_,_,us hc ((aJ (r:=0) hI hM ace).wk ?_),?_⟩;next=>exact⟨aA _,aA _,aA _,(aH hM),trivial⟩)
      cbv
      refine⟨?_,trivial⟩
      refine⟨_,gR (enc:=ao) (l:=[0,1]) hM ⟨⟨(ah _),rfl⟩,⟨(ah _),rfl⟩,trivial⟩,?_⟩;cbv
      refine⟨?_,trivial⟩
      refine⟨_,_,_,us hc (aJ hI hM Hk),?_⟩;cbv
      refine⟨?_,trivial⟩
      refine⟨_,gR (enc:=(aW M 0)) (l:=[QB,y29,Gz]) hM ⟨⟨(ah _),rfl⟩,⟨(ah _),rfl⟩,⟨(ah _),rfl⟩,trivial⟩,?_⟩;cbv
      refine⟨?_,trivial⟩
      refine⟨_,_,_,us hc (aG hI hM xB),?_⟩;cbv
      refine⟨?_,trivial⟩
      refine⟨_,_,_,us hc (aB hI hM Lz),?_⟩;cbv
      refine⟨_,aK hI SF,?_⟩;cbv
      refine⟨?_,trivial⟩
      refine⟨_,cN hI hM Ji L4 (by decide) rfl rfl,?_⟩;cbv
      all_goals exact .inl rfl
     try refine⟨?_,trivial⟩
     refine⟨_,gR (enc:=ao) (l:=[0,1]) hM ⟨⟨(ah _),rfl⟩,⟨(ah _),rfl⟩,trivial⟩,?_⟩;cbv
     try refine⟨?_,trivial⟩
     (refine⟨_,_,_,us hc ((aJ (r:=0) hI hM ace).wk ?_),?_⟩;next=>exact⟨aA _,aA _,aA _,(aH hM),trivial⟩)
     cbv
     try refine⟨?_,trivial⟩
     refine⟨_,_,_,us hc (aJ hI hM Hk),?_⟩;cbv
     try refine⟨?_,trivial⟩
     refine⟨_,gR (enc:=(aW M 0)) (l:=[QB,y29,Gz]) hM ⟨⟨(ah _),rfl⟩,⟨(ah _),rfl⟩,⟨(ah _),rfl⟩,trivial⟩,?_⟩;cbv
     try refine⟨?_,trivial⟩
     refine⟨_,_,_,us hc (aG hI hM xB),?_⟩;cbv
     try refine⟨?_,trivial⟩
     refine⟨_,_,_,us hc (aB hI hM Lz),?_⟩;cbv
     refine⟨_,aK hI SF,?_⟩;cbv
     try refine⟨?_,trivial⟩
     refine⟨_,cN hI hM Ji L4 (by decide) rfl rfl,?_⟩;cbv
     all_goals exact .inl rfl
    try refine⟨?_,trivial⟩
    refine⟨_,gR (enc:=ao) (l:=[0,1]) hM ⟨⟨(ah _),rfl⟩,⟨(ah _),rfl⟩,trivial⟩,?_⟩;cbv
    try refine⟨?_,trivial⟩
    (refine⟨_,_,_,us hc ((aJ (r:=0) hI hM WS).wk ?_),?_⟩;next=>exact⟨aA _,aA _,aA _,(aH hM),trivial⟩)
    cbv
    try refine⟨?_,trivial⟩
    (refine⟨_,_,_,us hc ((aJ (r:=0) hI hM ace).wk ?_),?_⟩;next=>exact⟨aA _,aA _,aA _,(aH hM),trivial⟩)
    cbv
    try refine⟨?_,trivial⟩
    refine⟨_,_,_,us hc (aJ hI hM Hk),?_⟩;cbv
    try refine⟨?_,trivial⟩
    refine⟨_,gR (enc:=(aW M 0)) (l:=[QB,y29,Gz]) hM ⟨⟨(ah _),rfl⟩,⟨(ah _),rfl⟩,⟨(ah _),rfl⟩,trivial⟩,?_⟩;cbv
    try refine⟨?_,trivial⟩
    refine⟨_,_,_,us hc (aG hI hM xB),?_⟩;cbv
    try refine⟨?_,trivial⟩
    refine⟨_,_,_,us hc (aB hI hM Lz),?_⟩;cbv
    refine⟨_,aK hI SF,?_⟩;cbv
    try refine⟨?_,trivial⟩
    refine⟨_,cN hI hM Ji L4 (by decide) rfl rfl,?_⟩;cbv
    all_goals exact .inl rfl
   cbv
   refine ae h fun w36 amR h=>?_
   refine FH none [] [(16,.box [(.sl 0 (M.map (aq M 0) w36))])] g nx ?_ ?_
   ·cbv
    all_goals(repeat' apply And.intro)
    all_goals first|trivial|rfl|exact(aH hM)|exact aht hM amR
   cbv
   refine ae h fun y37 amx h=>?_
   (refine⟨_,_,_,us hc ((aJ (r:=0) hI hM amx).wk ?_),?_⟩;next=>exact⟨aA _,aA _,aA _,(aH hM),trivial⟩)
   cbv
   refine ae h fun y38 Rk h=>?_
   (refine⟨_,_,_,us hc ((aJ (r:=0) hI hM Rk).wk ?_),?_⟩;next=>exact⟨aA _,aA _,aA _,(aH hM),trivial⟩)
   cbv
   refine⟨_,gR (enc:=ao) (l:=[0,1]) hM ⟨⟨(ah _),rfl⟩,⟨(ah _),rfl⟩,trivial⟩,?_⟩;cbv
   refine ae h fun QA Rj h=>⟨_,_,_,us hc (aJ hI hM Rj),?_⟩;cbv
   refine⟨_,gR (enc:=(aW M 0)) (l:=[y37,y38,QA]) hM ⟨⟨(ah _),rfl⟩,⟨(ah _),rfl⟩,⟨(ah _),rfl⟩,trivial⟩,?_⟩;cbv
   refine ae h fun yq Ae h=>⟨_,_,_,us hc (aG hI hM Ae),?_⟩;cbv
   refine ae h fun P9 Ri h=>⟨_,_,_,us hc (aB hI hM Ri),?_⟩;cbv
   refine ae h fun y42 Rh h=>?_
   (refine⟨_,_,_,us hc ((aJ (r:=0) hI hM Rh).wk ?_),?_⟩;next=>exact⟨aA _,aA _,aA _,(aH hM),trivial⟩)
   cbv
   refine⟨_,bJ (enc:=(aW M 0)) (x:=y42) hM (ah _) rfl,?_⟩;cbv
   as_aux_lemma=>
    refine ae h fun y43 amw h=>⟨_,_,_,us hc (aG hI hM amw),?_⟩;cbv
    refine ae h fun y44 amv h=>⟨_,_,_,us hc (aB hI hM amv),?_⟩;cbv
    refine ae h fun y45 amu h=>?_
    (refine⟨_,_,_,us hc ((aJ (r:=0) hI hM amu).wk ?_),?_⟩;next=>exact⟨aA _,aA _,aA _,(aH hM),trivial⟩)
    cbv
    refine⟨_,bJ (enc:=ao) (x:=0) hM (ah _) rfl,?_⟩;cbv
    refine ae h fun y46 amt h=>⟨_,_,_,us hc (aJ hI hM amt),?_⟩;cbv
    refine ae h fun y47 ams h=>?_
    (refine⟨_,_,_,us hc ((aJ (r:=0) hI hM ams).wk ?_),?_⟩;next=>exact⟨aA _,aA _,aA _,(aH hM),trivial⟩)
    cbv
    refine⟨_,gR (enc:=ao) (l:=[1,2]) hM ⟨⟨(ah _),rfl⟩,⟨(ah _),rfl⟩,trivial⟩,?_⟩;cbv
    refine ae h fun y48 amr h=>⟨_,_,_,us hc (aJ hI hM amr),?_⟩;cbv
    refine⟨_,gR (enc:=(aW M 0)) (l:=[y45,y46,y47,y48]) hM ⟨⟨(ah _),rfl⟩,⟨(ah _),rfl⟩,⟨(ah _),rfl⟩,⟨(ah _),rfl⟩,trivial⟩,?_⟩;cbv
    refine ae h fun y49 Rg h=>⟨_,_,_,us hc (aG hI hM Rg),?_⟩;cbv
    refine ae h fun Vl acd h=>⟨_,_,_,us hc (aB hI hM acd),?_⟩;cbv
    refine⟨_,gR (enc:=(aq M 0)) (l:=[P9,y44,Vl]) hM ⟨⟨(ah _),rfl⟩,⟨(ah _),rfl⟩,⟨(ah _),rfl⟩,trivial⟩,?_⟩;cbv
    refine ae h fun P8 ahK h=>?_
    refine ae h fun Fs O3 h=>?_
    refine ae h fun UU ahJ h=>?_
    refine ae h fun UT O2 h=>?_
    refine ae h fun x55 ahL h=>?_
    refine ae h fun Pn EX h=>?_
    apply Exists.intro;refine⟨?_,_,rfl,?_⟩
    ·cbv
     refine⟨?_,?_⟩
     ·(refine⟨_,_,_,us hc ((aJ (r:=0) hI hM ahK).wk ?_),?_⟩;next=>exact⟨aA _,aA _,aA _,(aH hM),trivial⟩)
      cbv
      refine⟨?_,trivial⟩
      refine⟨_,gR (enc:=ao) (l:=[0,0]) hM ⟨⟨(ah _),rfl⟩,⟨(ah _),rfl⟩,trivial⟩,?_⟩;cbv
      refine⟨?_,trivial⟩
      refine⟨_,_,_,us hc (aJ hI hM O3),?_⟩;cbv
      refine⟨?_,trivial⟩
      refine⟨_,gR (enc:=(aW M 0)) (l:=[P8,Fs]) hM ⟨⟨(ah _),rfl⟩,⟨(ah _),rfl⟩,trivial⟩,?_⟩;cbv
      refine⟨?_,trivial⟩
      refine⟨_,_,_,us hc (aG hI hM ahJ),?_⟩;cbv
      refine⟨?_,trivial⟩
      refine⟨_,_,_,us hc (aB hI hM O2),?_⟩;cbv
      refine⟨_,aK hI SF,?_⟩;cbv
      refine⟨?_,trivial⟩
      refine⟨_,cN hI hM ahL EX (by decide) rfl rfl,?_⟩;cbv
      all_goals exact .inl rfl
     try refine⟨?_,trivial⟩
     refine⟨_,gR (enc:=ao) (l:=[0,0]) hM ⟨⟨(ah _),rfl⟩,⟨(ah _),rfl⟩,trivial⟩,?_⟩;cbv
     try refine⟨?_,trivial⟩
     (refine⟨_,_,_,us hc ((aJ (r:=0) hI hM ahK).wk ?_),?_⟩;next=>exact⟨aA _,aA _,aA _,(aH hM),trivial⟩)
     cbv
     try refine⟨?_,trivial⟩
     refine⟨_,_,_,us hc (aJ hI hM O3),?_⟩;cbv
     try refine⟨?_,trivial⟩
     refine⟨_,gR (enc:=(aW M 0)) (l:=[P8,Fs]) hM ⟨⟨(ah _),rfl⟩,⟨(ah _),rfl⟩,trivial⟩,?_⟩;cbv
     try refine⟨?_,trivial⟩
     refine⟨_,_,_,us hc (aG hI hM ahJ),?_⟩;cbv
     try refine⟨?_,trivial⟩
     refine⟨_,_,_,us hc (aB hI hM O2),?_⟩;cbv
     refine⟨_,aK hI SF,?_⟩;cbv
     try refine⟨?_,trivial⟩
     refine⟨_,cN hI hM ahL EX (by decide) rfl rfl,?_⟩;cbv
     all_goals exact .inl rfl
    cbv
    refine ae h fun w57 amQ h=>?_
    refine FH none [] [(17,.box [(.sl 0 (M.map (aq M 0) w57))])] g nx ?_ ?_
    ·cbv
     all_goals(repeat' apply And.intro)
     all_goals first|trivial|rfl|exact(aH hM)|exact aht hM amQ
    cbv
    as_aux_lemma=>
     refine ae h fun y58 ahI h=>?_
     refine ae h fun qb lT h=>?_
     refine ae h fun KM Lx h=>?_
     refine ae h fun y61 pG h=>?_
     refine ae h fun rF jA h=>?_
     refine ae h fun y63 e8 h=>?_
     refine aT none [(18,(.ptr (.s 18) 0))] [(18,.box [(.sl 0 (M.map (aq M 0) y63.blocks))])] g nx ?_ ?_
     ·cbv
      refine⟨?_,?_⟩
      ·as_aux_lemma=>
        refine⟨_,_,_,us hc (rA hI hM ahI (r:=0)),?_⟩;cbv
        refine⟨?_,?_⟩
        ·as_aux_lemma=>
          refine⟨_,al hM lT rfl,?_⟩;cbv
          refine⟨?_,?_⟩
          ·as_aux_lemma=>
            (refine⟨_,_,_,us hc ((aJ (r:=0) hI hM Lx).wk ?_),?_⟩;next=>exact⟨aA _,aA _,aA _,(aH hM),trivial⟩)
            cbv
            refine⟨?_,?_⟩
            ·as_aux_lemma=>
              refine⟨_,bJ (enc:=(aW M 0)) (x:=KM) hM (ah _) rfl,?_⟩;cbv
              refine⟨?_,?_⟩
              ·as_aux_lemma=>
                refine⟨_,_,_,us hc (aG hI hM pG),?_⟩;cbv
                refine⟨?_,?_⟩
                ·as_aux_lemma=>
                  refine⟨_,_,_,us hc (aB hI hM jA),?_⟩;cbv
                  refine⟨?_,?_⟩
                  ·refine⟨_,gR (enc:=(aq M 0)) (l:=[qb,rF]) hM ⟨⟨(ah _),rfl⟩,⟨(ah _),rfl⟩,trivial⟩,?_⟩;cbv
                   refine⟨?_,?_⟩
                   ·refine⟨_,_,_,us hc (ay hI hM e8),?_⟩;cbv
                    try refine⟨?_,trivial⟩
                    try refine⟨?_,trivial⟩
                    all_goals first|exact Or.inl rfl|exact bB
                   try refine⟨?_,trivial⟩
                   try refine⟨?_,trivial⟩
                   refine⟨_,_,_,us hc (ay hI hM e8),?_⟩;cbv
                   try refine⟨?_,trivial⟩
                   all_goals first|exact Or.inl rfl|exact bB
                  try refine⟨?_,trivial⟩
                  try refine⟨?_,trivial⟩
                  refine⟨_,gR (enc:=(aq M 0)) (l:=[qb,rF]) hM ⟨⟨(ah _),rfl⟩,⟨(ah _),rfl⟩,trivial⟩,?_⟩;cbv
                  try refine⟨?_,trivial⟩
                  refine⟨_,_,_,us hc (ay hI hM e8),?_⟩;cbv
                  try refine⟨?_,trivial⟩
                  all_goals first|exact Or.inl rfl|exact bB
                try refine⟨?_,trivial⟩
                try refine⟨?_,trivial⟩
                refine⟨_,_,_,us hc (aB hI hM jA),?_⟩;cbv
                try refine⟨?_,trivial⟩
                refine⟨_,gR (enc:=(aq M 0)) (l:=[qb,rF]) hM ⟨⟨(ah _),rfl⟩,⟨(ah _),rfl⟩,trivial⟩,?_⟩;cbv
                try refine⟨?_,trivial⟩
                refine⟨_,_,_,us hc (ay hI hM e8),?_⟩;cbv
                try refine⟨?_,trivial⟩
                all_goals first|exact Or.inl rfl|exact bB
              try refine⟨?_,trivial⟩
              try refine⟨?_,trivial⟩
              refine⟨_,_,_,us hc (aG hI hM pG),?_⟩;cbv
              try refine⟨?_,trivial⟩
              refine⟨_,_,_,us hc (aB hI hM jA),?_⟩;cbv
              try refine⟨?_,trivial⟩
              refine⟨_,gR (enc:=(aq M 0)) (l:=[qb,rF]) hM ⟨⟨(ah _),rfl⟩,⟨(ah _),rfl⟩,trivial⟩,?_⟩;cbv
              try refine⟨?_,trivial⟩
              refine⟨_,_,_,us hc (ay hI hM e8),?_⟩;cbv
              try refine⟨?_,trivial⟩
              all_goals first|exact Or.inl rfl|exact bB
            try refine⟨?_,trivial⟩
            try refine⟨?_,trivial⟩
            refine⟨_,bJ (enc:=(aW M 0)) (x:=KM) hM (ah _) rfl,?_⟩;cbv
            try refine⟨?_,trivial⟩
            refine⟨_,_,_,us hc (aG hI hM pG),?_⟩;cbv
            try refine⟨?_,trivial⟩
            refine⟨_,_,_,us hc (aB hI hM jA),?_⟩;cbv
            try refine⟨?_,trivial⟩
            refine⟨_,gR (enc:=(aq M 0)) (l:=[qb,rF]) hM ⟨⟨(ah _),rfl⟩,⟨(ah _),rfl⟩,trivial⟩,?_⟩;cbv
            try refine⟨?_,trivial⟩
            refine⟨_,_,_,us hc (ay hI hM e8),?_⟩;cbv
            try refine⟨?_,trivial⟩
            all_goals first|exact Or.inl rfl|exact bB
          try refine⟨?_,trivial⟩
          try refine⟨?_,trivial⟩
          (refine⟨_,_,_,us hc ((aJ (r:=0) hI hM Lx).wk ?_),?_⟩;next=>exact⟨aA _,aA _,aA _,(aH hM),trivial⟩)
          cbv
          try refine⟨?_,trivial⟩
          refine⟨_,bJ (enc:=(aW M 0)) (x:=KM) hM (ah _) rfl,?_⟩;cbv
          try refine⟨?_,trivial⟩
          refine⟨_,_,_,us hc (aG hI hM pG),?_⟩;cbv
          try refine⟨?_,trivial⟩
          refine⟨_,_,_,us hc (aB hI hM jA),?_⟩;cbv
          try refine⟨?_,trivial⟩
          refine⟨_,gR (enc:=(aq M 0)) (l:=[qb,rF]) hM ⟨⟨(ah _),rfl⟩,⟨(ah _),rfl⟩,trivial⟩,?_⟩;cbv
          try refine⟨?_,trivial⟩
          refine⟨_,_,_,us hc (ay hI hM e8),?_⟩;cbv
          try refine⟨?_,trivial⟩
          all_goals first|exact Or.inl rfl|exact bB
        refine⟨?_,?_⟩
        ·as_aux_lemma=>
          (refine⟨_,_,_,us hc ((aJ (r:=0) hI hM Lx).wk ?_),?_⟩;next=>exact⟨aA _,aA _,aA _,(aH hM),trivial⟩)
          cbv
          refine⟨?_,?_⟩
          ·as_aux_lemma=>
            refine⟨_,al hM lT rfl,?_⟩;cbv
            refine⟨?_,?_⟩
            ·as_aux_lemma=>
              refine⟨_,bJ (enc:=(aW M 0)) (x:=KM) hM (ah _) rfl,?_⟩;cbv
              refine⟨?_,?_⟩
              ·as_aux_lemma=>
                refine⟨_,_,_,us hc (aG hI hM pG),?_⟩;cbv
                refine⟨?_,?_⟩
                ·as_aux_lemma=>
                  refine⟨_,_,_,us hc (aB hI hM jA),?_⟩;cbv
                  refine⟨?_,?_⟩
                  ·refine⟨_,gR (enc:=(aq M 0)) (l:=[qb,rF]) hM ⟨⟨(ah _),rfl⟩,⟨(ah _),rfl⟩,trivial⟩,?_⟩;cbv
                   refine⟨?_,?_⟩
                   ·refine⟨_,_,_,us hc (ay hI hM e8),?_⟩;cbv
                    try refine⟨?_,trivial⟩
                    try refine⟨?_,trivial⟩
                    all_goals first|exact Or.inl rfl|exact bB
                   try refine⟨?_,trivial⟩
                   try refine⟨?_,trivial⟩
                   refine⟨_,_,_,us hc (ay hI hM e8),?_⟩;cbv
                   try refine⟨?_,trivial⟩
                   all_goals first|exact Or.inl rfl|exact bB
                  try refine⟨?_,trivial⟩
                  try refine⟨?_,trivial⟩
                  refine⟨_,gR (enc:=(aq M 0)) (l:=[qb,rF]) hM ⟨⟨(ah _),rfl⟩,⟨(ah _),rfl⟩,trivial⟩,?_⟩;cbv
                  try refine⟨?_,trivial⟩
                  refine⟨_,_,_,us hc (ay hI hM e8),?_⟩;cbv
                  try refine⟨?_,trivial⟩
                  all_goals first|exact Or.inl rfl|exact bB
                try refine⟨?_,trivial⟩
                try refine⟨?_,trivial⟩
                refine⟨_,_,_,us hc (aB hI hM jA),?_⟩;cbv
                try refine⟨?_,trivial⟩
                refine⟨_,gR (enc:=(aq M 0)) (l:=[qb,rF]) hM ⟨⟨(ah _),rfl⟩,⟨(ah _),rfl⟩,trivial⟩,?_⟩;cbv
                try refine⟨?_,trivial⟩
                refine⟨_,_,_,us hc (ay hI hM e8),?_⟩;cbv
                try refine⟨?_,trivial⟩
                all_goals first|exact Or.inl rfl|exact bB
              try refine⟨?_,trivial⟩
              try refine⟨?_,trivial⟩
              refine⟨_,_,_,us hc (aG hI hM pG),?_⟩;cbv
              try refine⟨?_,trivial⟩
              refine⟨_,_,_,us hc (aB hI hM jA),?_⟩;cbv
              try refine⟨?_,trivial⟩
              refine⟨_,gR (enc:=(aq M 0)) (l:=[qb,rF]) hM ⟨⟨(ah _),rfl⟩,⟨(ah _),rfl⟩,trivial⟩,?_⟩;cbv
              try refine⟨?_,trivial⟩
              refine⟨_,_,_,us hc (ay hI hM e8),?_⟩;cbv
              try refine⟨?_,trivial⟩
              all_goals first|exact Or.inl rfl|exact bB
            try refine⟨?_,trivial⟩
            try refine⟨?_,trivial⟩
            refine⟨_,bJ (enc:=(aW M 0)) (x:=KM) hM (ah _) rfl,?_⟩;cbv
            try refine⟨?_,trivial⟩
            refine⟨_,_,_,us hc (aG hI hM pG),?_⟩;cbv
            try refine⟨?_,trivial⟩
            refine⟨_,_,_,us hc (aB hI hM jA),?_⟩;cbv
            try refine⟨?_,trivial⟩
            refine⟨_,gR (enc:=(aq M 0)) (l:=[qb,rF]) hM ⟨⟨(ah _),rfl⟩,⟨(ah _),rfl⟩,trivial⟩,?_⟩;cbv
            try refine⟨?_,trivial⟩
            refine⟨_,_,_,us hc (ay hI hM e8),?_⟩;cbv
            try refine⟨?_,trivial⟩
            all_goals first|exact Or.inl rfl|exact bB
          refine⟨?_,?_⟩
          ·as_aux_lemma=>
            refine⟨_,bJ (enc:=(aW M 0)) (x:=KM) hM (ah _) rfl,?_⟩;cbv
            refine⟨?_,?_⟩
            ·as_aux_lemma=>
              refine⟨_,al hM lT rfl,?_⟩;cbv
              refine⟨?_,?_⟩
              ·as_aux_lemma=>
                refine⟨_,_,_,us hc (aG hI hM pG),?_⟩;cbv
                refine⟨?_,?_⟩
                ·as_aux_lemma=>
                  refine⟨_,_,_,us hc (aB hI hM jA),?_⟩;cbv
                  refine⟨?_,?_⟩
                  ·refine⟨_,gR (enc:=(aq M 0)) (l:=[qb,rF]) hM ⟨⟨(ah _),rfl⟩,⟨(ah _),rfl⟩,trivial⟩,?_⟩;cbv
                   refine⟨?_,?_⟩
                   ·refine⟨_,_,_,us hc (ay hI hM e8),?_⟩;cbv
                    try refine⟨?_,trivial⟩
                    try refine⟨?_,trivial⟩
                    all_goals first|exact Or.inl rfl|exact bB
                   try refine⟨?_,trivial⟩
                   try refine⟨?_,trivial⟩
                   refine⟨_,_,_,us hc (ay hI hM e8),?_⟩;cbv
                   try refine⟨?_,trivial⟩
                   all_goals first|exact Or.inl rfl|exact bB
                  try refine⟨?_,trivial⟩
                  try refine⟨?_,trivial⟩
                  refine⟨_,gR (enc:=(aq M 0)) (l:=[qb,rF]) hM ⟨⟨(ah _),rfl⟩,⟨(ah _),rfl⟩,trivial⟩,?_⟩;cbv
                  try refine⟨?_,trivial⟩
                  refine⟨_,_,_,us hc (ay hI hM e8),?_⟩;cbv
                  try refine⟨?_,trivial⟩
                  all_goals first|exact Or.inl rfl|exact bB
                try refine⟨?_,trivial⟩
                try refine⟨?_,trivial⟩
                refine⟨_,_,_,us hc (aB hI hM jA),?_⟩;cbv
                try refine⟨?_,trivial⟩
                refine⟨_,gR (enc:=(aq M 0)) (l:=[qb,rF]) hM ⟨⟨(ah _),rfl⟩,⟨(ah _),rfl⟩,trivial⟩,?_⟩;cbv
                try refine⟨?_,trivial⟩
                refine⟨_,_,_,us hc (ay hI hM e8),?_⟩;cbv
                try refine⟨?_,trivial⟩
                all_goals first|exact Or.inl rfl|exact bB
              try refine⟨?_,trivial⟩
              try refine⟨?_,trivial⟩
              refine⟨_,_,_,us hc (aG hI hM pG),?_⟩;cbv
              try refine⟨?_,trivial⟩
              refine⟨_,_,_,us hc (aB hI hM jA),?_⟩;cbv
              try refine⟨?_,trivial⟩
              refine⟨_,gR (enc:=(aq M 0)) (l:=[qb,rF]) hM ⟨⟨(ah _),rfl⟩,⟨(ah _),rfl⟩,trivial⟩,?_⟩;cbv
              try refine⟨?_,trivial⟩
              refine⟨_,_,_,us hc (ay hI hM e8),?_⟩;cbv
              try refine⟨?_,trivial⟩
              all_goals first|exact Or.inl rfl|exact bB
            refine⟨?_,?_⟩
            ·as_aux_lemma=>
              refine⟨_,_,_,us hc (aG hI hM pG),?_⟩;cbv
              refine⟨?_,?_⟩
              ·as_aux_lemma=>
                refine⟨_,al hM lT rfl,?_⟩;cbv
                refine⟨?_,?_⟩
                ·as_aux_lemma=>
                  refine⟨_,_,_,us hc (aB hI hM jA),?_⟩;cbv
                  refine⟨?_,?_⟩
                  ·refine⟨_,gR (enc:=(aq M 0)) (l:=[qb,rF]) hM ⟨⟨(ah _),rfl⟩,⟨(ah _),rfl⟩,trivial⟩,?_⟩;cbv
                   refine⟨?_,?_⟩
                   ·refine⟨_,_,_,us hc (ay hI hM e8),?_⟩;cbv
                    try refine⟨?_,trivial⟩
                    try refine⟨?_,trivial⟩
                    all_goals first|exact Or.inl rfl|exact bB
                   try refine⟨?_,trivial⟩
                   try refine⟨?_,trivial⟩
                   refine⟨_,_,_,us hc (ay hI hM e8),?_⟩;cbv
                   try refine⟨?_,trivial⟩
                   all_goals first|exact Or.inl rfl|exact bB
                  try refine⟨?_,trivial⟩
                  try refine⟨?_,trivial⟩
                  refine⟨_,gR (enc:=(aq M 0)) (l:=[qb,rF]) hM ⟨⟨(ah _),rfl⟩,⟨(ah _),rfl⟩,trivial⟩,?_⟩;cbv
                  try refine⟨?_,trivial⟩
                  refine⟨_,_,_,us hc (ay hI hM e8),?_⟩;cbv
                  try refine⟨?_,trivial⟩
                  all_goals first|exact Or.inl rfl|exact bB
                try refine⟨?_,trivial⟩
                try refine⟨?_,trivial⟩
                refine⟨_,_,_,us hc (aB hI hM jA),?_⟩;cbv
                try refine⟨?_,trivial⟩
                refine⟨_,gR (enc:=(aq M 0)) (l:=[qb,rF]) hM ⟨⟨(ah _),rfl⟩,⟨(ah _),rfl⟩,trivial⟩,?_⟩;cbv
                try refine⟨?_,trivial⟩
                refine⟨_,_,_,us hc (ay hI hM e8),?_⟩;cbv
                try refine⟨?_,trivial⟩
                all_goals first|exact Or.inl rfl|exact bB
              refine⟨?_,?_⟩
              ·as_aux_lemma=>
                refine⟨_,_,_,us hc (aB hI hM jA),?_⟩;cbv
                refine⟨?_,?_⟩
                ·as_aux_lemma=>
                  refine⟨_,al hM lT rfl,?_⟩;cbv
                  refine⟨?_,?_⟩
                  ·refine⟨_,gR (enc:=(aq M 0)) (l:=[qb,rF]) hM ⟨⟨(ah _),rfl⟩,⟨(ah _),rfl⟩,trivial⟩,?_⟩;cbv
                   refine⟨?_,?_⟩
                   ·refine⟨_,_,_,us hc (ay hI hM e8),?_⟩;cbv
                    try refine⟨?_,trivial⟩
                    try refine⟨?_,trivial⟩
                    all_goals first|exact Or.inl rfl|exact bB
                   try refine⟨?_,trivial⟩
                   try refine⟨?_,trivial⟩
                   refine⟨_,_,_,us hc (ay hI hM e8),?_⟩;cbv
                   try refine⟨?_,trivial⟩
                   all_goals first|exact Or.inl rfl|exact bB
                  try refine⟨?_,trivial⟩
                  try refine⟨?_,trivial⟩
                  refine⟨_,gR (enc:=(aq M 0)) (l:=[qb,rF]) hM ⟨⟨(ah _),rfl⟩,⟨(ah _),rfl⟩,trivial⟩,?_⟩;cbv
                  try refine⟨?_,trivial⟩
                  refine⟨_,_,_,us hc (ay hI hM e8),?_⟩;cbv
                  try refine⟨?_,trivial⟩
                  all_goals first|exact Or.inl rfl|exact bB
                try refine⟨?_,trivial⟩
                try refine⟨?_,trivial⟩
                refine⟨_,al hM lT rfl,?_⟩;cbv
                try refine⟨?_,trivial⟩
                refine⟨_,gR (enc:=(aq M 0)) (l:=[qb,rF]) hM ⟨⟨(ah _),rfl⟩,⟨(ah _),rfl⟩,trivial⟩,?_⟩;cbv
                try refine⟨?_,trivial⟩
                refine⟨_,_,_,us hc (ay hI hM e8),?_⟩;cbv
                try refine⟨?_,trivial⟩
                all_goals first|exact Or.inl rfl|exact bB
              try refine⟨?_,trivial⟩
              refine⟨?_,?_⟩
              ·refine⟨_,al hM lT rfl,?_⟩;cbv
               try refine⟨?_,trivial⟩
               refine⟨_,_,_,us hc (aB hI hM jA),?_⟩;cbv
               try refine⟨?_,trivial⟩
               refine⟨_,gR (enc:=(aq M 0)) (l:=[qb,rF]) hM ⟨⟨(ah _),rfl⟩,⟨(ah _),rfl⟩,trivial⟩,?_⟩;cbv
               try refine⟨?_,trivial⟩
               refine⟨_,_,_,us hc (ay hI hM e8),?_⟩;cbv
               try refine⟨?_,trivial⟩
               all_goals first|exact Or.inl rfl|exact bB
              try refine⟨?_,trivial⟩
              refine⟨_,_,_,us hc (aB hI hM jA),?_⟩;cbv
              try refine⟨?_,trivial⟩
              refine⟨_,al hM lT rfl,?_⟩;cbv
              try refine⟨?_,trivial⟩
              refine⟨_,gR (enc:=(aq M 0)) (l:=[qb,rF]) hM ⟨⟨(ah _),rfl⟩,⟨(ah _),rfl⟩,trivial⟩,?_⟩;cbv
              try refine⟨?_,trivial⟩
              refine⟨_,_,_,us hc (ay hI hM e8),?_⟩;cbv
              try refine⟨?_,trivial⟩
              all_goals first|exact Or.inl rfl|exact bB
            try refine⟨?_,trivial⟩
            refine⟨?_,?_⟩
            ·refine⟨_,al hM lT rfl,?_⟩;cbv
             try refine⟨?_,trivial⟩
             refine⟨_,_,_,us hc (aG hI hM pG),?_⟩;cbv
             try refine⟨?_,trivial⟩
             refine⟨_,_,_,us hc (aB hI hM jA),?_⟩;cbv
             try refine⟨?_,trivial⟩
             refine⟨_,gR (enc:=(aq M 0)) (l:=[qb,rF]) hM ⟨⟨(ah _),rfl⟩,⟨(ah _),rfl⟩,trivial⟩,?_⟩;cbv
             try refine⟨?_,trivial⟩
             refine⟨_,_,_,us hc (ay hI hM e8),?_⟩;cbv
             try refine⟨?_,trivial⟩
             all_goals first|exact Or.inl rfl|exact bB
            try refine⟨?_,trivial⟩
            refine⟨_,_,_,us hc (aG hI hM pG),?_⟩;cbv
            refine⟨?_,?_⟩
            ·refine⟨_,al hM lT rfl,?_⟩;cbv
             try refine⟨?_,trivial⟩
             refine⟨_,_,_,us hc (aB hI hM jA),?_⟩;cbv
             try refine⟨?_,trivial⟩
             refine⟨_,gR (enc:=(aq M 0)) (l:=[qb,rF]) hM ⟨⟨(ah _),rfl⟩,⟨(ah _),rfl⟩,trivial⟩,?_⟩;cbv
             try refine⟨?_,trivial⟩
             refine⟨_,_,_,us hc (ay hI hM e8),?_⟩;cbv
             try refine⟨?_,trivial⟩
             all_goals first|exact Or.inl rfl|exact bB
            try refine⟨?_,trivial⟩
            refine⟨_,_,_,us hc (aB hI hM jA),?_⟩;cbv
            try refine⟨?_,trivial⟩
            refine⟨_,al hM lT rfl,?_⟩;cbv
            try refine⟨?_,trivial⟩
            refine⟨_,gR (enc:=(aq M 0)) (l:=[qb,rF]) hM ⟨⟨(ah _),rfl⟩,⟨(ah _),rfl⟩,trivial⟩,?_⟩;cbv
            try refine⟨?_,trivial⟩
            refine⟨_,_,_,us hc (ay hI hM e8),?_⟩;cbv
            try refine⟨?_,trivial⟩
            all_goals first|exact Or.inl rfl|exact bB
          try refine⟨?_,trivial⟩
          refine⟨?_,?_⟩
          ·as_aux_lemma=>
            refine⟨_,al hM lT rfl,?_⟩;cbv
            try refine⟨?_,trivial⟩
            refine⟨_,bJ (enc:=(aW M 0)) (x:=KM) hM (ah _) rfl,?_⟩;cbv
            try refine⟨?_,trivial⟩
            refine⟨_,_,_,us hc (aG hI hM pG),?_⟩;cbv
            try refine⟨?_,trivial⟩
            refine⟨_,_,_,us hc (aB hI hM jA),?_⟩;cbv
            try refine⟨?_,trivial⟩
            refine⟨_,gR (enc:=(aq M 0)) (l:=[qb,rF]) hM ⟨⟨(ah _),rfl⟩,⟨(ah _),rfl⟩,trivial⟩,?_⟩;cbv
            try refine⟨?_,trivial⟩
            refine⟨_,_,_,us hc (ay hI hM e8),?_⟩;cbv
            try refine⟨?_,trivial⟩
            all_goals first|exact Or.inl rfl|exact bB
          try refine⟨?_,trivial⟩
          refine⟨_,bJ (enc:=(aW M 0)) (x:=KM) hM (ah _) rfl,?_⟩;cbv
          refine⟨?_,?_⟩
          ·refine⟨_,al hM lT rfl,?_⟩;cbv
           try refine⟨?_,trivial⟩
           refine⟨_,_,_,us hc (aG hI hM pG),?_⟩;cbv
           try refine⟨?_,trivial⟩
           refine⟨_,_,_,us hc (aB hI hM jA),?_⟩;cbv
           try refine⟨?_,trivial⟩
           refine⟨_,gR (enc:=(aq M 0)) (l:=[qb,rF]) hM ⟨⟨(ah _),rfl⟩,⟨(ah _),rfl⟩,trivial⟩,?_⟩;cbv
           try refine⟨?_,trivial⟩
           refine⟨_,_,_,us hc (ay hI hM e8),?_⟩;cbv
           try refine⟨?_,trivial⟩
           all_goals first|exact Or.inl rfl|exact bB
          try refine⟨?_,trivial⟩
          refine⟨_,_,_,us hc (aG hI hM pG),?_⟩;cbv
          refine⟨?_,?_⟩
          ·refine⟨_,al hM lT rfl,?_⟩;cbv
           try refine⟨?_,trivial⟩
           refine⟨_,_,_,us hc (aB hI hM jA),?_⟩;cbv
           try refine⟨?_,trivial⟩
           refine⟨_,gR (enc:=(aq M 0)) (l:=[qb,rF]) hM ⟨⟨(ah _),rfl⟩,⟨(ah _),rfl⟩,trivial⟩,?_⟩;cbv
           try refine⟨?_,trivial⟩
           refine⟨_,_,_,us hc (ay hI hM e8),?_⟩;cbv
           try refine⟨?_,trivial⟩
           all_goals first|exact Or.inl rfl|exact bB
          try refine⟨?_,trivial⟩
          refine⟨_,_,_,us hc (aB hI hM jA),?_⟩;cbv
          try refine⟨?_,trivial⟩
          refine⟨_,al hM lT rfl,?_⟩;cbv
          try refine⟨?_,trivial⟩
          refine⟨_,gR (enc:=(aq M 0)) (l:=[qb,rF]) hM ⟨⟨(ah _),rfl⟩,⟨(ah _),rfl⟩,trivial⟩,?_⟩;cbv
          try refine⟨?_,trivial⟩
          refine⟨_,_,_,us hc (ay hI hM e8),?_⟩;cbv
          try refine⟨?_,trivial⟩
          all_goals first|exact Or.inl rfl|exact bB
        try refine⟨?_,trivial⟩
        refine⟨?_,?_⟩
        ·as_aux_lemma=>
          refine⟨_,al hM lT rfl,?_⟩;cbv
          try refine⟨?_,trivial⟩
          (refine⟨_,_,_,us hc ((aJ (r:=0) hI hM Lx).wk ?_),?_⟩;next=>exact⟨aA _,aA _,aA _,(aH hM),trivial⟩)
          cbv
          try refine⟨?_,trivial⟩
          refine⟨_,bJ (enc:=(aW M 0)) (x:=KM) hM (ah _) rfl,?_⟩;cbv
          try refine⟨?_,trivial⟩
          refine⟨_,_,_,us hc (aG hI hM pG),?_⟩;cbv
          try refine⟨?_,trivial⟩
          refine⟨_,_,_,us hc (aB hI hM jA),?_⟩;cbv
          try refine⟨?_,trivial⟩
          refine⟨_,gR (enc:=(aq M 0)) (l:=[qb,rF]) hM ⟨⟨(ah _),rfl⟩,⟨(ah _),rfl⟩,trivial⟩,?_⟩;cbv
          try refine⟨?_,trivial⟩
          refine⟨_,_,_,us hc (ay hI hM e8),?_⟩;cbv
          try refine⟨?_,trivial⟩
          all_goals first|exact Or.inl rfl|exact bB
        try refine⟨?_,trivial⟩
        (refine⟨_,_,_,us hc ((aJ (r:=0) hI hM Lx).wk ?_),?_⟩;next=>exact⟨aA _,aA _,aA _,(aH hM),trivial⟩)
        cbv
        refine⟨?_,?_⟩
        ·as_aux_lemma=>
          refine⟨_,al hM lT rfl,?_⟩;cbv
          try refine⟨?_,trivial⟩
          refine⟨_,bJ (enc:=(aW M 0)) (x:=KM) hM (ah _) rfl,?_⟩;cbv
          try refine⟨?_,trivial⟩
          refine⟨_,_,_,us hc (aG hI hM pG),?_⟩;cbv
          try refine⟨?_,trivial⟩
          refine⟨_,_,_,us hc (aB hI hM jA),?_⟩;cbv
          try refine⟨?_,trivial⟩
          refine⟨_,gR (enc:=(aq M 0)) (l:=[qb,rF]) hM ⟨⟨(ah _),rfl⟩,⟨(ah _),rfl⟩,trivial⟩,?_⟩;cbv
          try refine⟨?_,trivial⟩
          refine⟨_,_,_,us hc (ay hI hM e8),?_⟩;cbv
          try refine⟨?_,trivial⟩
          all_goals first|exact Or.inl rfl|exact bB
        try refine⟨?_,trivial⟩
        refine⟨_,bJ (enc:=(aW M 0)) (x:=KM) hM (ah _) rfl,?_⟩;cbv
        refine⟨?_,?_⟩
        ·refine⟨_,al hM lT rfl,?_⟩;cbv
         try refine⟨?_,trivial⟩
         refine⟨_,_,_,us hc (aG hI hM pG),?_⟩;cbv
         try refine⟨?_,trivial⟩
         refine⟨_,_,_,us hc (aB hI hM jA),?_⟩;cbv
         try refine⟨?_,trivial⟩
         refine⟨_,gR (enc:=(aq M 0)) (l:=[qb,rF]) hM ⟨⟨(ah _),rfl⟩,⟨(ah _),rfl⟩,trivial⟩,?_⟩;cbv
         try refine⟨?_,trivial⟩
         refine⟨_,_,_,us hc (ay hI hM e8),?_⟩;cbv
         try refine⟨?_,trivial⟩
         all_goals first|exact Or.inl rfl|exact bB
        try refine⟨?_,trivial⟩
        refine⟨_,_,_,us hc (aG hI hM pG),?_⟩;cbv
        refine⟨?_,?_⟩
        ·refine⟨_,al hM lT rfl,?_⟩;cbv
         try refine⟨?_,trivial⟩
         refine⟨_,_,_,us hc (aB hI hM jA),?_⟩;cbv
         try refine⟨?_,trivial⟩
         refine⟨_,gR (enc:=(aq M 0)) (l:=[qb,rF]) hM ⟨⟨(ah _),rfl⟩,⟨(ah _),rfl⟩,trivial⟩,?_⟩;cbv
         try refine⟨?_,trivial⟩
         refine⟨_,_,_,us hc (ay hI hM e8),?_⟩;cbv
         try refine⟨?_,trivial⟩
         all_goals first|exact Or.inl rfl|exact bB
        try refine⟨?_,trivial⟩
        refine⟨_,_,_,us hc (aB hI hM jA),?_⟩;cbv
        try refine⟨?_,trivial⟩
        refine⟨_,al hM lT rfl,?_⟩;cbv
        try refine⟨?_,trivial⟩
        refine⟨_,gR (enc:=(aq M 0)) (l:=[qb,rF]) hM ⟨⟨(ah _),rfl⟩,⟨(ah _),rfl⟩,trivial⟩,?_⟩;cbv
        try refine⟨?_,trivial⟩
        refine⟨_,_,_,us hc (ay hI hM e8),?_⟩;cbv
        try refine⟨?_,trivial⟩
        all_goals first|exact Or.inl rfl|exact bB
      try refine⟨?_,trivial⟩
      try refine⟨?_,trivial⟩
      refine⟨_,_,_,us hc (rA hI hM ahI (r:=0)),?_⟩;cbv
      refine⟨?_,?_⟩
      ·as_aux_lemma=>
        refine⟨_,al hM lT rfl,?_⟩;cbv
        try refine⟨?_,trivial⟩
        (refine⟨_,_,_,us hc ((aJ (r:=0) hI hM Lx).wk ?_),?_⟩;next=>exact⟨aA _,aA _,aA _,(aH hM),trivial⟩)
        cbv
        try refine⟨?_,trivial⟩
        refine⟨_,bJ (enc:=(aW M 0)) (x:=KM) hM (ah _) rfl,?_⟩;cbv
        try refine⟨?_,trivial⟩
        refine⟨_,_,_,us hc (aG hI hM pG),?_⟩;cbv
        try refine⟨?_,trivial⟩
        refine⟨_,_,_,us hc (aB hI hM jA),?_⟩;cbv
        try refine⟨?_,trivial⟩
        refine⟨_,gR (enc:=(aq M 0)) (l:=[qb,rF]) hM ⟨⟨(ah _),rfl⟩,⟨(ah _),rfl⟩,trivial⟩,?_⟩;cbv
        try refine⟨?_,trivial⟩
        refine⟨_,_,_,us hc (ay hI hM e8),?_⟩;cbv
        try refine⟨?_,trivial⟩
        all_goals first|exact Or.inl rfl|exact bB
      try refine⟨?_,trivial⟩
      (refine⟨_,_,_,us hc ((aJ (r:=0) hI hM Lx).wk ?_),?_⟩;next=>exact⟨aA _,aA _,aA _,(aH hM),trivial⟩)
      cbv
      refine⟨?_,?_⟩
      ·as_aux_lemma=>
        refine⟨_,al hM lT rfl,?_⟩;cbv
        try refine⟨?_,trivial⟩
        refine⟨_,bJ (enc:=(aW M 0)) (x:=KM) hM (ah _) rfl,?_⟩;cbv
        try refine⟨?_,trivial⟩
        refine⟨_,_,_,us hc (aG hI hM pG),?_⟩;cbv
        try refine⟨?_,trivial⟩
        refine⟨_,_,_,us hc (aB hI hM jA),?_⟩;cbv
        try refine⟨?_,trivial⟩
        refine⟨_,gR (enc:=(aq M 0)) (l:=[qb,rF]) hM ⟨⟨(ah _),rfl⟩,⟨(ah _),rfl⟩,trivial⟩,?_⟩;cbv
        try refine⟨?_,trivial⟩
        refine⟨_,_,_,us hc (ay hI hM e8),?_⟩;cbv
        try refine⟨?_,trivial⟩
        all_goals first|exact Or.inl rfl|exact bB
      try refine⟨?_,trivial⟩
      refine⟨_,bJ (enc:=(aW M 0)) (x:=KM) hM (ah _) rfl,?_⟩;cbv
      refine⟨?_,?_⟩
      ·refine⟨_,al hM lT rfl,?_⟩;cbv
       try refine⟨?_,trivial⟩
       refine⟨_,_,_,us hc (aG hI hM pG),?_⟩;cbv
       try refine⟨?_,trivial⟩
       refine⟨_,_,_,us hc (aB hI hM jA),?_⟩;cbv
       try refine⟨?_,trivial⟩
       refine⟨_,gR (enc:=(aq M 0)) (l:=[qb,rF]) hM ⟨⟨(ah _),rfl⟩,⟨(ah _),rfl⟩,trivial⟩,?_⟩;cbv
       try refine⟨?_,trivial⟩
       refine⟨_,_,_,us hc (ay hI hM e8),?_⟩;cbv
       try refine⟨?_,trivial⟩
       all_goals first|exact Or.inl rfl|exact bB
      try refine⟨?_,trivial⟩
      refine⟨_,_,_,us hc (aG hI hM pG),?_⟩;cbv
      refine⟨?_,?_⟩
      ·refine⟨_,al hM lT rfl,?_⟩;cbv
       try refine⟨?_,trivial⟩
       refine⟨_,_,_,us hc (aB hI hM jA),?_⟩;cbv
       try refine⟨?_,trivial⟩
       refine⟨_,gR (enc:=(aq M 0)) (l:=[qb,rF]) hM ⟨⟨(ah _),rfl⟩,⟨(ah _),rfl⟩,trivial⟩,?_⟩;cbv
       try refine⟨?_,trivial⟩
       refine⟨_,_,_,us hc (ay hI hM e8),?_⟩;cbv
       try refine⟨?_,trivial⟩
       all_goals first|exact Or.inl rfl|exact bB
      try refine⟨?_,trivial⟩
      refine⟨_,_,_,us hc (aB hI hM jA),?_⟩;cbv
      try refine⟨?_,trivial⟩
      refine⟨_,al hM lT rfl,?_⟩;cbv
      try refine⟨?_,trivial⟩
      refine⟨_,gR (enc:=(aq M 0)) (l:=[qb,rF]) hM ⟨⟨(ah _),rfl⟩,⟨(ah _),rfl⟩,trivial⟩,?_⟩;cbv
      try refine⟨?_,trivial⟩
      refine⟨_,_,_,us hc (ay hI hM e8),?_⟩;cbv
      try refine⟨?_,trivial⟩
      all_goals first|exact Or.inl rfl|exact bB
     cbv
     refine ae h fun y64 ahH h=>?_
     refine ae h fun Qz ahG h=>?_
     refine ae h fun US ahF h=>?_
     refine ae h fun Vk ahE h=>?_
     refine ae h fun Zm ahD h=>?_
     refine ae h fun y69 ahC h=>?_
     refine ae h fun y70 WR h=>?_
     refine ae h fun UY O4 h=>?_
     refine ae h fun y72 EU h=>?_
     refine ae h fun y73 ET h=>?_
     refine aT none [(0,(vb (I.pick (I.pick (I.pick (I.pick (I.pick (I.pick (I.pick (I.pick (I.pick (I.pick (I.pick (I.pick (I.pick (I.aN y2.2 0) (I.aN y4.2 0) false) (I.aN y6.2.2 0) false) (I.aN y8.2 0) false) (I.aN y9.2 0) false) (I.aN rJ.2 0) false) (I.aN ov.2 0) false) Qz false) US false) Vk false) (I.aN y6.2.1 2) false) Zm false) y69 false) y73 false)))] [] g nx ?_ ?_
     ·cbv
      refine⟨?_,?_⟩
      ·as_aux_lemma=>
        try refine⟨?_,trivial⟩
        refine⟨_,fun hp=>us hc (jH hI hM (ax ahH hp.1) (r:=0)),?_⟩;cbv
        try refine⟨?_,trivial⟩
        refine⟨_,fun hp=>us hc (bq hI hM (ax ahG hp.1)),?_⟩;cbv
        try refine⟨?_,trivial⟩
        refine⟨_,fun hp=>us hc (bq hI hM (ax ahF hp.1)),?_⟩;cbv
        try refine⟨?_,trivial⟩
        refine⟨_,fun hp=>us hc (bq hI hM (ax ahE hp.1)),?_⟩;cbv
        try refine⟨?_,trivial⟩
        refine⟨_,fun hp=>us hc (bq hI hM (ax ahD hp.1)),?_⟩;cbv
        try refine⟨?_,trivial⟩
        refine⟨_,gR (enc:=ao) (l:=[0,0]) hM ⟨⟨(ah _),rfl⟩,⟨(ah _),rfl⟩,trivial⟩,?_⟩;cbv
        try refine⟨?_,trivial⟩
        refine⟨_,fun hp=>us hc (dt hI hM (ax ahC hp.1)),?_⟩;cbv
        refine⟨?_,?_⟩
        ·try refine⟨?_,trivial⟩
         refine⟨_,fun hp=>us hc (ix hI hM (ax WR hp.1) (r:=0)),?_⟩;cbv
         try refine⟨?_,trivial⟩
         refine⟨_,fun hp=>al hM (ax O4 hp.1) rfl,?_⟩;cbv
         try refine⟨?_,trivial⟩
         refine⟨_,bJ (enc:=(aq M 0)) (x:=UY) hM (ah _) rfl,?_⟩;cbv
         try refine⟨?_,trivial⟩
         refine⟨_,fun hp=>us hc (ay hI hM (ax EU hp.1)),?_⟩;cbv
         try refine⟨?_,trivial⟩
         refine⟨_,fun hp=>us hc (bq hI hM (ax ET hp.1)),?_⟩;cbv
         all_goals first|exact Or.inl rfl|exact bB
        try refine⟨?_,trivial⟩
        refine⟨_,fun hp=>us hc (ix hI hM (ax WR hp.1) (r:=0)),?_⟩;cbv
        refine⟨?_,?_⟩
        ·try refine⟨?_,trivial⟩
         refine⟨_,fun hp=>al hM (ax O4 hp.1) rfl,?_⟩;cbv
         try refine⟨?_,trivial⟩
         refine⟨_,bJ (enc:=(aq M 0)) (x:=UY) hM (ah _) rfl,?_⟩;cbv
         try refine⟨?_,trivial⟩
         refine⟨_,fun hp=>us hc (ay hI hM (ax EU hp.1)),?_⟩;cbv
         try refine⟨?_,trivial⟩
         refine⟨_,fun hp=>us hc (bq hI hM (ax ET hp.1)),?_⟩;cbv
         all_goals first|exact Or.inl rfl|exact bB
        as_aux_lemma=>
         try refine⟨?_,trivial⟩
         refine⟨_,fun hp=>al hM (ax O4 hp.1) rfl,?_⟩;cbv
         refine⟨?_,?_⟩
         ·try refine⟨?_,trivial⟩
          refine⟨_,bJ (enc:=(aq M 0)) (x:=UY) hM (ah _) rfl,?_⟩;cbv
          try refine⟨?_,trivial⟩
          refine⟨_,fun hp=>us hc (ay hI hM (ax EU hp.1)),?_⟩;cbv
          try refine⟨?_,trivial⟩
          refine⟨_,fun hp=>us hc (bq hI hM (ax ET hp.1)),?_⟩;cbv
          all_goals first|exact Or.inl rfl|exact bB
         try refine⟨?_,trivial⟩
         refine⟨_,bJ (enc:=(aq M 0)) (x:=UY) hM (ah _) rfl,?_⟩;cbv
         refine⟨?_,?_⟩
         ·try refine⟨?_,trivial⟩
          refine⟨_,fun hp=>us hc (ay hI hM (ax EU hp.1)),?_⟩;cbv
          try refine⟨?_,trivial⟩
          refine⟨_,fun hp=>us hc (bq hI hM (ax ET hp.1)),?_⟩;cbv
          all_goals first|exact Or.inl rfl|exact bB
         try refine⟨?_,trivial⟩
         refine⟨_,fun hp=>us hc (ay hI hM (ax EU hp.1)),?_⟩;cbv
         try refine⟨?_,trivial⟩
         refine⟨_,fun hp=>us hc (bq hI hM (ax ET hp.1)),?_⟩;cbv
         all_goals first|exact Or.inl rfl|exact bB
      try refine⟨?_,trivial⟩
      refine⟨_,fun hp=>us hc (jH hI hM (ax ahH hp.1) (r:=0)),?_⟩;cbv
      try refine⟨?_,trivial⟩
      refine⟨_,fun hp=>us hc (bq hI hM (ax ahG hp.1)),?_⟩;cbv
      try refine⟨?_,trivial⟩
      refine⟨_,fun hp=>us hc (bq hI hM (ax ahF hp.1)),?_⟩;cbv
      try refine⟨?_,trivial⟩
      refine⟨_,fun hp=>us hc (bq hI hM (ax ahE hp.1)),?_⟩;cbv
      try refine⟨?_,trivial⟩
      refine⟨_,fun hp=>us hc (bq hI hM (ax ahD hp.1)),?_⟩;cbv
      try refine⟨?_,trivial⟩
      refine⟨_,gR (enc:=ao) (l:=[0,0]) hM ⟨⟨(ah _),rfl⟩,⟨(ah _),rfl⟩,trivial⟩,?_⟩;cbv
      try refine⟨?_,trivial⟩
      refine⟨_,fun hp=>us hc (dt hI hM (ax ahC hp.1)),?_⟩;cbv
      refine⟨?_,?_⟩
      ·try refine⟨?_,trivial⟩
       refine⟨_,fun hp=>us hc (ix hI hM (ax WR hp.1) (r:=0)),?_⟩;cbv
       try refine⟨?_,trivial⟩
       refine⟨_,fun hp=>al hM (ax O4 hp.1) rfl,?_⟩;cbv
       try refine⟨?_,trivial⟩
       refine⟨_,bJ (enc:=(aq M 0)) (x:=UY) hM (ah _) rfl,?_⟩;cbv
       try refine⟨?_,trivial⟩
       refine⟨_,fun hp=>us hc (ay hI hM (ax EU hp.1)),?_⟩;cbv
       try refine⟨?_,trivial⟩
       refine⟨_,fun hp=>us hc (bq hI hM (ax ET hp.1)),?_⟩;cbv
       all_goals first|exact Or.inl rfl|exact bB
      as_aux_lemma=>
       try refine⟨?_,trivial⟩
       refine⟨_,fun hp=>us hc (ix hI hM (ax WR hp.1) (r:=0)),?_⟩;cbv
       refine⟨?_,?_⟩
       ·try refine⟨?_,trivial⟩
        refine⟨_,fun hp=>al hM (ax O4 hp.1) rfl,?_⟩;cbv
        try refine⟨?_,trivial⟩
        refine⟨_,bJ (enc:=(aq M 0)) (x:=UY) hM (ah _) rfl,?_⟩;cbv
        try refine⟨?_,trivial⟩
        refine⟨_,fun hp=>us hc (ay hI hM (ax EU hp.1)),?_⟩;cbv
        try refine⟨?_,trivial⟩
        refine⟨_,fun hp=>us hc (bq hI hM (ax ET hp.1)),?_⟩;cbv
        all_goals first|exact Or.inl rfl|exact bB
       try refine⟨?_,trivial⟩
       refine⟨_,fun hp=>al hM (ax O4 hp.1) rfl,?_⟩;cbv
       refine⟨?_,?_⟩
       ·try refine⟨?_,trivial⟩
        refine⟨_,bJ (enc:=(aq M 0)) (x:=UY) hM (ah _) rfl,?_⟩;cbv
        try refine⟨?_,trivial⟩
        refine⟨_,fun hp=>us hc (ay hI hM (ax EU hp.1)),?_⟩;cbv
        try refine⟨?_,trivial⟩
        refine⟨_,fun hp=>us hc (bq hI hM (ax ET hp.1)),?_⟩;cbv
        all_goals first|exact Or.inl rfl|exact bB
       try refine⟨?_,trivial⟩
       refine⟨_,bJ (enc:=(aq M 0)) (x:=UY) hM (ah _) rfl,?_⟩;cbv
       refine⟨?_,?_⟩
       ·try refine⟨?_,trivial⟩
        refine⟨_,fun hp=>us hc (ay hI hM (ax EU hp.1)),?_⟩;cbv
        try refine⟨?_,trivial⟩
        refine⟨_,fun hp=>us hc (bq hI hM (ax ET hp.1)),?_⟩;cbv
        all_goals first|exact Or.inl rfl|exact bB
       try refine⟨?_,trivial⟩
       refine⟨_,fun hp=>us hc (ay hI hM (ax EU hp.1)),?_⟩;cbv
       try refine⟨?_,trivial⟩
       refine⟨_,fun hp=>us hc (bq hI hM (ax ET hp.1)),?_⟩;cbv
       all_goals first|exact Or.inl rfl|exact bB
     cbv
     as_aux_lemma=>
      cbv;cases h;exact fin
end Ab
