/- PassesDrops holds of every core (no condition): a part of the proof: an abstract interpreter of the code that is proved sound, models of the functions, and laws of these models. -/
import Derived.Test.YtcdinjhcnhepeaaGreatDoorD02
import Derived.Test.YtcdinjhcnhepeaaGreatDoorD03
import Derived.Test.YtcdinjhcnhepeaaGreatDoorD13
import Derived.Test.YtcdinjhcnhepeaaGreatDoorD04
import Derived.Test.YtcdinjhcnhepeaaGreatDoorD11
import Derived.Test.YtcdinjhcnhepeaaGreatDoorD07
import Derived.Test.YtcdinjhcnhepeaaGreatDoorD12
set_option linter.unusedVariables false
set_option linter.unusedSimpArgs false
namespace Ab
open Go Go.Proofs.Tryz
set_option maxHeartbeats 100000000
set_option maxRecDepth 100000
variable{I:Pr}(hI:I=al){M:Md}(hM:M= .al){n nx r s p q u rl:Nat}{g:Nat→Option Ob}
 include hI hM
theorem wa{v:Bool}(h:ji I M n=some v):
  bO 8 [] (vb v) g nx:=by
 refine yp func8 c8 0 F6 akv [4020,4025,4030,4046,4051,4089,5009,5011] 155 ntmps8 [.tmp 0] hI (bk.cons (OX 0) (bk.cons (Yn 0) (tF PP fD))) 8 (hd:=d8_) fun call hc=>?_
 cbv
 refine ab h fun y1 cN h=>⟨_,_,_,us hc (jG hI hM cN (r:=0)),?_⟩;cbv
 refine ab h fun y2 rT h=>⟨_,_,_,us hc (cf hI hM rT (r:=0)),?_⟩;cbv
 refine ab h fun y3 HJ h=>⟨_,_,_,us hc (jG hI hM HJ (r:=0)),?_⟩;cbv
 refine ab h fun y4 lb h=>⟨_,_,_,us hc (s8 hI hM lb (r:=0)),?_⟩;cbv
 refine ab h fun y5 HG h=>⟨_,_,_,us hc (jG hI hM HG (r:=0)),?_⟩;cbv
 refine ab h fun y6 yT h=>⟨_,_,_,us hc (FG hI hM yT),?_⟩;cbv
 refine ab h fun y7 JL h=>⟨_,_,_,us hc (sd hI hM JL (r:=0)),?_⟩;cbv
 refine ab h fun y8 RR h=>⟨_,_,_,us hc (uL hI hM RR (r:=0)),?_⟩;cbv
 refine ab h fun y9 JK h=>⟨_,_,_,us hc (mN hI hM JK (r:=0)),?_⟩;cbv
 refine ab h fun qO oT h=>⟨_,_,_,us hc (iu hI hM oT (r:=0)),?_⟩;cbv
 refine ab h fun sm uQ h=>⟨_,_,_,us hc (zK hI hM uQ),?_⟩;cbv
 refine ab h fun CJ HM h=>⟨_,_,_,us hc (iu hI hM HM (r:=0)),?_⟩;cbv
 refine ab h fun pW tM h=>⟨_,_,_,us hc (Ct hI hM tM),?_⟩;cbv
 refine ab h fun E7 HL h=>?_
 (refine⟨_,_,_,us hc ((aK (r:=0) hI hM HL).wk ?_),?_⟩;next=>exact⟨ay _,ay _,ay _,(aE hM),trivial⟩)
 cbv
 refine ab h fun Da HK h=>?_
 (refine⟨_,_,_,us hc ((aK (r:=0) hI hM HK).wk ?_),?_⟩;next=>exact⟨ay _,ay _,ay _,(aE hM),trivial⟩)
 cbv
 refine⟨_,gH (enc:=an) (l:=[0,1]) hM ⟨⟨(af _),rfl⟩,⟨(af _),rfl⟩,trivial⟩,?_⟩;cbv
 refine ab h fun GY Ml h=>⟨_,_,_,us hc (aK hI hM Ml),?_⟩;cbv
 refine⟨_,gH (enc:=(aZ M 0)) (l:=[E7,Da,GY]) hM ⟨⟨(af _),rfl⟩,⟨(af _),rfl⟩,⟨(af _),rfl⟩,trivial⟩,?_⟩;cbv
 refine ab h fun y17 acM h=>⟨_,_,_,us hc (aG hI hM acM),?_⟩;cbv
 refine ab h fun LF RX h=>⟨_,_,_,us hc (aA hI hM RX),?_⟩;cbv
 as_aux_lemma=>
  refine ab h fun y19 acL h=>?_
  (refine⟨_,_,_,us hc ((aK (r:=0) hI hM acL).wk ?_),?_⟩;next=>exact⟨ay _,ay _,ay _,(aE hM),trivial⟩)
  cbv
  refine⟨_,bJ (enc:=(aZ M 0)) (x:=y19) hM (af _) rfl,?_⟩;cbv
  refine ab h fun NT Mk h=>⟨_,_,_,us hc (aG hI hM Mk),?_⟩;cbv
  refine ab h fun Pk acK h=>⟨_,_,_,us hc (aA hI hM acK),?_⟩;cbv
  refine ab h fun QN RW h=>?_
  (refine⟨_,_,_,us hc ((aK (r:=0) hI hM RW).wk ?_),?_⟩;next=>exact⟨ay _,ay _,ay _,(aE hM),trivial⟩)
  cbv
  refine⟨_,bJ (enc:=an) (x:=0) hM (af _) rfl,?_⟩;cbv
  refine ab h fun ZO acJ h=>⟨_,_,_,us hc (aK hI hM acJ),?_⟩;cbv
  refine ab h fun y24 amE h=>?_
  (refine⟨_,_,_,us hc ((aK (r:=0) hI hM amE).wk ?_),?_⟩;next=>exact⟨ay _,ay _,ay _,(aE hM),trivial⟩)
  cbv
  refine⟨_,gH (enc:=an) (l:=[1,2]) hM ⟨⟨(af _),rfl⟩,⟨(af _),rfl⟩,trivial⟩,?_⟩;cbv
  refine ab h fun Rc RV h=>⟨_,_,_,us hc (aK hI hM RV),?_⟩;cbv
  refine⟨_,gH (enc:=(aZ M 0)) (l:=[QN,ZO,y24,Rc]) hM ⟨⟨(af _),rfl⟩,⟨(af _),rfl⟩,⟨(af _),rfl⟩,⟨(af _),rfl⟩,trivial⟩,?_⟩;cbv
  refine ab h fun VQ acI h=>⟨_,_,_,us hc (aG hI hM acI),?_⟩;cbv
  refine ab h fun y27 acH h=>⟨_,_,_,us hc (aA hI hM acH),?_⟩;cbv
  refine⟨_,gH (enc:=(ao M 0)) (l:=[LF,Pk,y27]) hM ⟨⟨(af _),rfl⟩,⟨(af _),rfl⟩,⟨(af _),rfl⟩,trivial⟩,?_⟩;cbv
  as_aux_lemma=>
   refine ab h fun NS PN h=>?_
   refine ab h fun Vp RU h=>?_
   refine ab h fun EZ DE h=>?_
   refine ab h fun Bg vv h=>?_
   refine ab h fun Rb HI h=>?_
   refine ab h fun k33 Tg h=>?_
   refine ab h fun ZU JO h=>?_
   refine ab h fun l35 MK h=>?_
   apply Exists.intro;refine⟨?_,_,rfl,?_⟩
   ·cbv
    refine⟨?_,?_⟩
    ·(refine⟨_,_,_,us hc ((aK (r:=0) hI hM PN).wk ?_),?_⟩;next=>exact⟨ay _,ay _,ay _,(aE hM),trivial⟩)
     cbv
     refine⟨?_,?_⟩
     ·(refine⟨_,_,_,us hc ((aK (r:=0) hI hM RU).wk ?_),?_⟩;next=>exact⟨ay _,ay _,ay _,(aE hM),trivial⟩)
      cbv
      refine⟨?_,trivial⟩
      refine⟨_,gH (enc:=an) (l:=[0,1]) hM ⟨⟨(af _),rfl⟩,⟨(af _),rfl⟩,trivial⟩,?_⟩;cbv
      refine⟨?_,trivial⟩
      refine⟨_,_,_,us hc (aK hI hM DE),?_⟩;cbv
      refine⟨?_,trivial⟩
      refine⟨_,gH (enc:=(aZ M 0)) (l:=[NS,Vp,EZ]) hM ⟨⟨(af _),rfl⟩,⟨(af _),rfl⟩,⟨(af _),rfl⟩,trivial⟩,?_⟩;cbv
      refine⟨?_,trivial⟩
      refine⟨_,_,_,us hc (aG hI hM vv),?_⟩;cbv
      refine⟨?_,trivial⟩
      refine⟨_,_,_,us hc (aA hI hM HI),?_⟩;cbv
      refine⟨_,aM hI Tg,?_⟩;cbv
      refine⟨?_,trivial⟩
      refine⟨_,cF hI hM JO MK (by decide) rfl rfl,?_⟩;cbv
      all_goals exact .inl rfl
     try refine⟨?_,trivial⟩
     refine⟨_,gH (enc:=an) (l:=[0,1]) hM ⟨⟨(af _),rfl⟩,⟨(af _),rfl⟩,trivial⟩,?_⟩;cbv
     try refine⟨?_,trivial⟩
     (refine⟨_,_,_,us hc ((aK (r:=0) hI hM RU).wk ?_),?_⟩;next=>exact⟨ay _,ay _,ay _,(aE hM),trivial⟩)
     cbv
     try refine⟨?_,trivial⟩
     refine⟨_,_,_,us hc (aK hI hM DE),?_⟩;cbv
     try refine⟨?_,trivial⟩
     refine⟨_,gH (enc:=(aZ M 0)) (l:=[NS,Vp,EZ]) hM ⟨⟨(af _),rfl⟩,⟨(af _),rfl⟩,⟨(af _),rfl⟩,trivial⟩,?_⟩;cbv
     try refine⟨?_,trivial⟩
     refine⟨_,_,_,us hc (aG hI hM vv),?_⟩;cbv
     try refine⟨?_,trivial⟩
     refine⟨_,_,_,us hc (aA hI hM HI),?_⟩;cbv
     refine⟨_,aM hI Tg,?_⟩;cbv
     try refine⟨?_,trivial⟩
     refine⟨_,cF hI hM JO MK (by decide) rfl rfl,?_⟩;cbv
     all_goals exact .inl rfl
    try refine⟨?_,trivial⟩
    refine⟨_,gH (enc:=an) (l:=[0,1]) hM ⟨⟨(af _),rfl⟩,⟨(af _),rfl⟩,trivial⟩,?_⟩;cbv
    try refine⟨?_,trivial⟩
    (refine⟨_,_,_,us hc ((aK (r:=0) hI hM PN).wk ?_),?_⟩;next=>exact⟨ay _,ay _,ay _,(aE hM),trivial⟩)
    cbv
    try refine⟨?_,trivial⟩
    (refine⟨_,_,_,us hc ((aK (r:=0) hI hM RU).wk ?_),?_⟩;next=>exact⟨ay _,ay _,ay _,(aE hM),trivial⟩)
    cbv
    try refine⟨?_,trivial⟩
    refine⟨_,_,_,us hc (aK hI hM DE),?_⟩;cbv
    try refine⟨?_,trivial⟩
    refine⟨_,gH (enc:=(aZ M 0)) (l:=[NS,Vp,EZ]) hM ⟨⟨(af _),rfl⟩,⟨(af _),rfl⟩,⟨(af _),rfl⟩,trivial⟩,?_⟩;cbv
    try refine⟨?_,trivial⟩
    refine⟨_,_,_,us hc (aG hI hM vv),?_⟩;cbv
    try refine⟨?_,trivial⟩
    refine⟨_,_,_,us hc (aA hI hM HI),?_⟩;cbv
    refine⟨_,aM hI Tg,?_⟩;cbv
    try refine⟨?_,trivial⟩
    refine⟨_,cF hI hM JO MK (by decide) rfl rfl,?_⟩;cbv
    all_goals exact .inl rfl
   cbv
   refine ab h fun w36 amW h=>?_
   refine Gb none [] [(16,.box [(.sl 0 (M.map (ao M 0) w36))])] g nx ?_ ?_
   ·cbv
    all_goals(repeat' apply And.intro)
    all_goals first|trivial|rfl|exact(aE hM)|exact ahP hM amW
   cbv
   refine ab h fun ZN acG h=>?_
   (refine⟨_,_,_,us hc ((aK (r:=0) hI hM acG).wk ?_),?_⟩;next=>exact⟨ay _,ay _,ay _,(aE hM),trivial⟩)
   cbv
   refine ab h fun Vn Mj h=>?_
   (refine⟨_,_,_,us hc ((aK (r:=0) hI hM Mj).wk ?_),?_⟩;next=>exact⟨ay _,ay _,ay _,(aE hM),trivial⟩)
   cbv
   refine⟨_,gH (enc:=an) (l:=[0,1]) hM ⟨⟨(af _),rfl⟩,⟨(af _),rfl⟩,trivial⟩,?_⟩;cbv
   refine ab h fun NR Mi h=>⟨_,_,_,us hc (aK hI hM Mi),?_⟩;cbv
   refine⟨_,gH (enc:=(aZ M 0)) (l:=[ZN,Vn,NR]) hM ⟨⟨(af _),rfl⟩,⟨(af _),rfl⟩,⟨(af _),rfl⟩,trivial⟩,?_⟩;cbv
   refine ab h fun B8 At h=>⟨_,_,_,us hc (aG hI hM At),?_⟩;cbv
   refine ab h fun LD Mh h=>⟨_,_,_,us hc (aA hI hM Mh),?_⟩;cbv
   refine ab h fun QM Mg h=>?_
   (refine⟨_,_,_,us hc ((aK (r:=0) hI hM Mg).wk ?_),?_⟩;next=>exact⟨ay _,ay _,ay _,(aE hM),trivial⟩)
   cbv
   refine⟨_,bJ (enc:=(aZ M 0)) (x:=QM) hM (af _) rfl,?_⟩;cbv
   as_aux_lemma=>
    refine ab h fun y43 acF h=>⟨_,_,_,us hc (aG hI hM acF),?_⟩;cbv
    refine ab h fun y44 acE h=>⟨_,_,_,us hc (aA hI hM acE),?_⟩;cbv
    refine ab h fun ZM acD h=>?_
    (refine⟨_,_,_,us hc ((aK (r:=0) hI hM acD).wk ?_),?_⟩;next=>exact⟨ay _,ay _,ay _,(aE hM),trivial⟩)
    cbv
    refine⟨_,bJ (enc:=an) (x:=0) hM (af _) rfl,?_⟩;cbv
    refine ab h fun y46 acC h=>⟨_,_,_,us hc (aK hI hM acC),?_⟩;cbv
    refine ab h fun y47 acB h=>?_
    (refine⟨_,_,_,us hc ((aK (r:=0) hI hM acB).wk ?_),?_⟩;next=>exact⟨ay _,ay _,ay _,(aE hM),trivial⟩)
    cbv
    refine⟨_,gH (enc:=an) (l:=[1,2]) hM ⟨⟨(af _),rfl⟩,⟨(af _),rfl⟩,trivial⟩,?_⟩;cbv
    refine ab h fun ZL acA h=>⟨_,_,_,us hc (aK hI hM acA),?_⟩;cbv
    refine⟨_,gH (enc:=(aZ M 0)) (l:=[ZM,y46,y47,ZL]) hM ⟨⟨(af _),rfl⟩,⟨(af _),rfl⟩,⟨(af _),rfl⟩,⟨(af _),rfl⟩,trivial⟩,?_⟩;cbv
    refine ab h fun VP Mf h=>⟨_,_,_,us hc (aG hI hM Mf),?_⟩;cbv
    refine ab h fun QL RT h=>⟨_,_,_,us hc (aA hI hM RT),?_⟩;cbv
    refine⟨_,gH (enc:=(ao M 0)) (l:=[LD,y44,QL]) hM ⟨⟨(af _),rfl⟩,⟨(af _),rfl⟩,⟨(af _),rfl⟩,trivial⟩,?_⟩;cbv
    refine ab h fun y51 ah5 h=>?_
    refine ab h fun Ja JN h=>?_
    refine ab h fun VO Xi h=>?_
    refine ab h fun Pj JM h=>?_
    refine ab h fun x55 ah6 h=>?_
    refine ab h fun M9 Fp h=>?_
    apply Exists.intro;refine⟨?_,_,rfl,?_⟩
    ·cbv
     refine⟨?_,?_⟩
     ·(refine⟨_,_,_,us hc ((aK (r:=0) hI hM ah5).wk ?_),?_⟩;next=>exact⟨ay _,ay _,ay _,(aE hM),trivial⟩)
      cbv
      refine⟨?_,trivial⟩
      refine⟨_,gH (enc:=an) (l:=[0,0]) hM ⟨⟨(af _),rfl⟩,⟨(af _),rfl⟩,trivial⟩,?_⟩;cbv
      refine⟨?_,trivial⟩
      refine⟨_,_,_,us hc (aK hI hM JN),?_⟩;cbv
      refine⟨?_,trivial⟩
      refine⟨_,gH (enc:=(aZ M 0)) (l:=[y51,Ja]) hM ⟨⟨(af _),rfl⟩,⟨(af _),rfl⟩,trivial⟩,?_⟩;cbv
      refine⟨?_,trivial⟩
      refine⟨_,_,_,us hc (aG hI hM Xi),?_⟩;cbv
      refine⟨?_,trivial⟩
      refine⟨_,_,_,us hc (aA hI hM JM),?_⟩;cbv
      refine⟨_,aM hI Tg,?_⟩;cbv
      refine⟨?_,trivial⟩
      refine⟨_,cF hI hM ah6 Fp (by decide) rfl rfl,?_⟩;cbv
      all_goals exact .inl rfl
     try refine⟨?_,trivial⟩
     refine⟨_,gH (enc:=an) (l:=[0,0]) hM ⟨⟨(af _),rfl⟩,⟨(af _),rfl⟩,trivial⟩,?_⟩;cbv
     try refine⟨?_,trivial⟩
     (refine⟨_,_,_,us hc ((aK (r:=0) hI hM ah5).wk ?_),?_⟩;next=>exact⟨ay _,ay _,ay _,(aE hM),trivial⟩)
     cbv
     try refine⟨?_,trivial⟩
     refine⟨_,_,_,us hc (aK hI hM JN),?_⟩;cbv
     try refine⟨?_,trivial⟩
     refine⟨_,gH (enc:=(aZ M 0)) (l:=[y51,Ja]) hM ⟨⟨(af _),rfl⟩,⟨(af _),rfl⟩,trivial⟩,?_⟩;cbv
     try refine⟨?_,trivial⟩
     refine⟨_,_,_,us hc (aG hI hM Xi),?_⟩;cbv
     try refine⟨?_,trivial⟩
     refine⟨_,_,_,us hc (aA hI hM JM),?_⟩;cbv
     refine⟨_,aM hI Tg,?_⟩;cbv
     try refine⟨?_,trivial⟩
     refine⟨_,cF hI hM ah6 Fp (by decide) rfl rfl,?_⟩;cbv
     all_goals exact .inl rfl
    cbv
    refine ab h fun w57 amV h=>?_
    refine Gb none [] [(17,.box [(.sl 0 (M.map (ao M 0) w57))])] g nx ?_ ?_
    ·cbv
     all_goals(repeat' apply And.intro)
     all_goals first|trivial|rfl|exact(aE hM)|exact ahP hM amV
    cbv
    as_aux_lemma=>
     refine ab h fun y58 Xh h=>?_
     refine ab h fun qP mn h=>?_
     refine ab h fun Lp Me h=>?_
     refine ab h fun y61 qg h=>?_
     refine ab h fun sk jB h=>?_
     refine ab h fun y63 eQ h=>?_
     refine aX none [(18,(.ptr (.s 18) 0))] [(18,.box [(.sl 0 (M.map (ao M 0) y63.blocks))])] g nx ?_ ?_
     ·cbv
      refine⟨?_,?_⟩
      ·as_aux_lemma=>
        refine⟨_,_,_,us hc (sd hI hM Xh (r:=0)),?_⟩;cbv
        refine⟨?_,?_⟩
        ·as_aux_lemma=>
          refine⟨_,ai hM mn rfl,?_⟩;cbv
          refine⟨?_,?_⟩
          ·as_aux_lemma=>
            (refine⟨_,_,_,us hc ((aK (r:=0) hI hM Me).wk ?_),?_⟩;next=>exact⟨ay _,ay _,ay _,(aE hM),trivial⟩)
            cbv
            refine⟨?_,?_⟩
            ·as_aux_lemma=>
              refine⟨_,bJ (enc:=(aZ M 0)) (x:=Lp) hM (af _) rfl,?_⟩;cbv
              refine⟨?_,?_⟩
              ·as_aux_lemma=>
                refine⟨_,_,_,us hc (aG hI hM qg),?_⟩;cbv
                refine⟨?_,?_⟩
                ·as_aux_lemma=>
                  refine⟨_,_,_,us hc (aA hI hM jB),?_⟩;cbv
                  refine⟨?_,?_⟩
                  ·refine⟨_,gH (enc:=(ao M 0)) (l:=[qP,sk]) hM ⟨⟨(af _),rfl⟩,⟨(af _),rfl⟩,trivial⟩,?_⟩;cbv
                   refine⟨?_,?_⟩
                   ·refine⟨_,_,_,us hc (ax hI hM eQ),?_⟩;cbv
                    try refine⟨?_,trivial⟩
                    try refine⟨?_,trivial⟩
                    all_goals first|exact Or.inl rfl|exact bB
                   try refine⟨?_,trivial⟩
                   try refine⟨?_,trivial⟩
                   refine⟨_,_,_,us hc (ax hI hM eQ),?_⟩;cbv
                   try refine⟨?_,trivial⟩
                   all_goals first|exact Or.inl rfl|exact bB
                  try refine⟨?_,trivial⟩
                  try refine⟨?_,trivial⟩
                  refine⟨_,gH (enc:=(ao M 0)) (l:=[qP,sk]) hM ⟨⟨(af _),rfl⟩,⟨(af _),rfl⟩,trivial⟩,?_⟩;cbv
                  try refine⟨?_,trivial⟩
                  refine⟨_,_,_,us hc (ax hI hM eQ),?_⟩;cbv
                  try refine⟨?_,trivial⟩
                  all_goals first|exact Or.inl rfl|exact bB
                try refine⟨?_,trivial⟩
                try refine⟨?_,trivial⟩
                refine⟨_,_,_,us hc (aA hI hM jB),?_⟩;cbv
                try refine⟨?_,trivial⟩
                refine⟨_,gH (enc:=(ao M 0)) (l:=[qP,sk]) hM ⟨⟨(af _),rfl⟩,⟨(af _),rfl⟩,trivial⟩,?_⟩;cbv
                try refine⟨?_,trivial⟩
                refine⟨_,_,_,us hc (ax hI hM eQ),?_⟩;cbv
                try refine⟨?_,trivial⟩
                all_goals first|exact Or.inl rfl|exact bB
              try refine⟨?_,trivial⟩
              try refine⟨?_,trivial⟩
              refine⟨_,_,_,us hc (aG hI hM qg),?_⟩;cbv
              try refine⟨?_,trivial⟩
              refine⟨_,_,_,us hc (aA hI hM jB),?_⟩;cbv
              try refine⟨?_,trivial⟩
              refine⟨_,gH (enc:=(ao M 0)) (l:=[qP,sk]) hM ⟨⟨(af _),rfl⟩,⟨(af _),rfl⟩,trivial⟩,?_⟩;cbv
              try refine⟨?_,trivial⟩
              refine⟨_,_,_,us hc (ax hI hM eQ),?_⟩;cbv
              try refine⟨?_,trivial⟩
              all_goals first|exact Or.inl rfl|exact bB
            try refine⟨?_,trivial⟩
            try refine⟨?_,trivial⟩
            refine⟨_,bJ (enc:=(aZ M 0)) (x:=Lp) hM (af _) rfl,?_⟩;cbv
            try refine⟨?_,trivial⟩
            refine⟨_,_,_,us hc (aG hI hM qg),?_⟩;cbv
            try refine⟨?_,trivial⟩
            refine⟨_,_,_,us hc (aA hI hM jB),?_⟩;cbv
            try refine⟨?_,trivial⟩
            refine⟨_,gH (enc:=(ao M 0)) (l:=[qP,sk]) hM ⟨⟨(af _),rfl⟩,⟨(af _),rfl⟩,trivial⟩,?_⟩;cbv
            try refine⟨?_,trivial⟩
            refine⟨_,_,_,us hc (ax hI hM eQ),?_⟩;cbv
            try refine⟨?_,trivial⟩
            all_goals first|exact Or.inl rfl|exact bB
          try refine⟨?_,trivial⟩
          try refine⟨?_,trivial⟩
          (refine⟨_,_,_,us hc ((aK (r:=0) hI hM Me).wk ?_),?_⟩;next=>exact⟨ay _,ay _,ay _,(aE hM),trivial⟩)
          cbv
          try refine⟨?_,trivial⟩
          refine⟨_,bJ (enc:=(aZ M 0)) (x:=Lp) hM (af _) rfl,?_⟩;cbv
          try refine⟨?_,trivial⟩
          refine⟨_,_,_,us hc (aG hI hM qg),?_⟩;cbv
          try refine⟨?_,trivial⟩
          refine⟨_,_,_,us hc (aA hI hM jB),?_⟩;cbv
          try refine⟨?_,trivial⟩
          refine⟨_,gH (enc:=(ao M 0)) (l:=[qP,sk]) hM ⟨⟨(af _),rfl⟩,⟨(af _),rfl⟩,trivial⟩,?_⟩;cbv
          try refine⟨?_,trivial⟩
          refine⟨_,_,_,us hc (ax hI hM eQ),?_⟩;cbv
          try refine⟨?_,trivial⟩
          all_goals first|exact Or.inl rfl|exact bB
        refine⟨?_,?_⟩
        ·as_aux_lemma=>
          (refine⟨_,_,_,us hc ((aK (r:=0) hI hM Me).wk ?_),?_⟩;next=>exact⟨ay _,ay _,ay _,(aE hM),trivial⟩)
          cbv
          refine⟨?_,?_⟩
          ·as_aux_lemma=>
            refine⟨_,ai hM mn rfl,?_⟩;cbv
            refine⟨?_,?_⟩
            ·as_aux_lemma=>
              refine⟨_,bJ (enc:=(aZ M 0)) (x:=Lp) hM (af _) rfl,?_⟩;cbv
              refine⟨?_,?_⟩
              ·as_aux_lemma=>
                refine⟨_,_,_,us hc (aG hI hM qg),?_⟩;cbv
                refine⟨?_,?_⟩
                ·as_aux_lemma=>
                  refine⟨_,_,_,us hc (aA hI hM jB),?_⟩;cbv
                  refine⟨?_,?_⟩
                  ·refine⟨_,gH (enc:=(ao M 0)) (l:=[qP,sk]) hM ⟨⟨(af _),rfl⟩,⟨(af _),rfl⟩,trivial⟩,?_⟩;cbv
                   refine⟨?_,?_⟩
                   ·refine⟨_,_,_,us hc (ax hI hM eQ),?_⟩;cbv
                    try refine⟨?_,trivial⟩
                    try refine⟨?_,trivial⟩
                    all_goals first|exact Or.inl rfl|exact bB
                   try refine⟨?_,trivial⟩
                   try refine⟨?_,trivial⟩
                   refine⟨_,_,_,us hc (ax hI hM eQ),?_⟩;cbv
                   try refine⟨?_,trivial⟩
                   all_goals first|exact Or.inl rfl|exact bB
                  try refine⟨?_,trivial⟩
                  try refine⟨?_,trivial⟩
                  refine⟨_,gH (enc:=(ao M 0)) (l:=[qP,sk]) hM ⟨⟨(af _),rfl⟩,⟨(af _),rfl⟩,trivial⟩,?_⟩;cbv
                  try refine⟨?_,trivial⟩
                  refine⟨_,_,_,us hc (ax hI hM eQ),?_⟩;cbv
                  try refine⟨?_,trivial⟩
                  all_goals first|exact Or.inl rfl|exact bB
                try refine⟨?_,trivial⟩
                try refine⟨?_,trivial⟩
                refine⟨_,_,_,us hc (aA hI hM jB),?_⟩;cbv
                try refine⟨?_,trivial⟩
                refine⟨_,gH (enc:=(ao M 0)) (l:=[qP,sk]) hM ⟨⟨(af _),rfl⟩,⟨(af _),rfl⟩,trivial⟩,?_⟩;cbv
                try refine⟨?_,trivial⟩
                refine⟨_,_,_,us hc (ax hI hM eQ),?_⟩;cbv
                try refine⟨?_,trivial⟩
                all_goals first|exact Or.inl rfl|exact bB
              try refine⟨?_,trivial⟩
              try refine⟨?_,trivial⟩
              refine⟨_,_,_,us hc (aG hI hM qg),?_⟩;cbv
              try refine⟨?_,trivial⟩
              refine⟨_,_,_,us hc (aA hI hM jB),?_⟩;cbv
              try refine⟨?_,trivial⟩
              refine⟨_,gH (enc:=(ao M 0)) (l:=[qP,sk]) hM ⟨⟨(af _),rfl⟩,⟨(af _),rfl⟩,trivial⟩,?_⟩;cbv
              try refine⟨?_,trivial⟩
              refine⟨_,_,_,us hc (ax hI hM eQ),?_⟩;cbv
              try refine⟨?_,trivial⟩
              all_goals first|exact Or.inl rfl|exact bB
            try refine⟨?_,trivial⟩
            try refine⟨?_,trivial⟩
            refine⟨_,bJ (enc:=(aZ M 0)) (x:=Lp) hM (af _) rfl,?_⟩;cbv
            try refine⟨?_,trivial⟩
            refine⟨_,_,_,us hc (aG hI hM qg),?_⟩;cbv
            try refine⟨?_,trivial⟩
            refine⟨_,_,_,us hc (aA hI hM jB),?_⟩;cbv
            try refine⟨?_,trivial⟩
            refine⟨_,gH (enc:=(ao M 0)) (l:=[qP,sk]) hM ⟨⟨(af _),rfl⟩,⟨(af _),rfl⟩,trivial⟩,?_⟩;cbv
            try refine⟨?_,trivial⟩
            refine⟨_,_,_,us hc (ax hI hM eQ),?_⟩;cbv
            try refine⟨?_,trivial⟩
            all_goals first|exact Or.inl rfl|exact bB
          refine⟨?_,?_⟩
          ·as_aux_lemma=>
            refine⟨_,bJ (enc:=(aZ M 0)) (x:=Lp) hM (af _) rfl,?_⟩;cbv
            refine⟨?_,?_⟩
            ·as_aux_lemma=>
              refine⟨_,ai hM mn rfl,?_⟩;cbv
              refine⟨?_,?_⟩
              ·as_aux_lemma=>
                refine⟨_,_,_,us hc (aG hI hM qg),?_⟩;cbv
                refine⟨?_,?_⟩
                ·as_aux_lemma=>
                  refine⟨_,_,_,us hc (aA hI hM jB),?_⟩;cbv
                  refine⟨?_,?_⟩
                  ·refine⟨_,gH (enc:=(ao M 0)) (l:=[qP,sk]) hM ⟨⟨(af _),rfl⟩,⟨(af _),rfl⟩,trivial⟩,?_⟩;cbv
                   refine⟨?_,?_⟩
                   ·refine⟨_,_,_,us hc (ax hI hM eQ),?_⟩;cbv
                    try refine⟨?_,trivial⟩
                    try refine⟨?_,trivial⟩
                    all_goals first|exact Or.inl rfl|exact bB
                   try refine⟨?_,trivial⟩
                   try refine⟨?_,trivial⟩
                   refine⟨_,_,_,us hc (ax hI hM eQ),?_⟩;cbv
                   try refine⟨?_,trivial⟩
                   all_goals first|exact Or.inl rfl|exact bB
                  try refine⟨?_,trivial⟩
                  try refine⟨?_,trivial⟩
                  refine⟨_,gH (enc:=(ao M 0)) (l:=[qP,sk]) hM ⟨⟨(af _),rfl⟩,⟨(af _),rfl⟩,trivial⟩,?_⟩;cbv
                  try refine⟨?_,trivial⟩
                  refine⟨_,_,_,us hc (ax hI hM eQ),?_⟩;cbv
                  try refine⟨?_,trivial⟩
                  all_goals first|exact Or.inl rfl|exact bB
                try refine⟨?_,trivial⟩
                try refine⟨?_,trivial⟩
                refine⟨_,_,_,us hc (aA hI hM jB),?_⟩;cbv
                try refine⟨?_,trivial⟩
                refine⟨_,gH (enc:=(ao M 0)) (l:=[qP,sk]) hM ⟨⟨(af _),rfl⟩,⟨(af _),rfl⟩,trivial⟩,?_⟩;cbv
                try refine⟨?_,trivial⟩
                refine⟨_,_,_,us hc (ax hI hM eQ),?_⟩;cbv
                try refine⟨?_,trivial⟩
                all_goals first|exact Or.inl rfl|exact bB
              try refine⟨?_,trivial⟩
              try refine⟨?_,trivial⟩
              refine⟨_,_,_,us hc (aG hI hM qg),?_⟩;cbv
              try refine⟨?_,trivial⟩
              refine⟨_,_,_,us hc (aA hI hM jB),?_⟩;cbv
              try refine⟨?_,trivial⟩
              refine⟨_,gH (enc:=(ao M 0)) (l:=[qP,sk]) hM ⟨⟨(af _),rfl⟩,⟨(af _),rfl⟩,trivial⟩,?_⟩;cbv
              try refine⟨?_,trivial⟩
              refine⟨_,_,_,us hc (ax hI hM eQ),?_⟩;cbv
              try refine⟨?_,trivial⟩
              all_goals first|exact Or.inl rfl|exact bB
            refine⟨?_,?_⟩
            ·as_aux_lemma=>
              refine⟨_,_,_,us hc (aG hI hM qg),?_⟩;cbv
              refine⟨?_,?_⟩
              ·as_aux_lemma=>
                refine⟨_,ai hM mn rfl,?_⟩;cbv
                refine⟨?_,?_⟩
                ·as_aux_lemma=>
                  refine⟨_,_,_,us hc (aA hI hM jB),?_⟩;cbv
                  refine⟨?_,?_⟩
                  ·refine⟨_,gH (enc:=(ao M 0)) (l:=[qP,sk]) hM ⟨⟨(af _),rfl⟩,⟨(af _),rfl⟩,trivial⟩,?_⟩;cbv
                   refine⟨?_,?_⟩
                   ·refine⟨_,_,_,us hc (ax hI hM eQ),?_⟩;cbv
                    try refine⟨?_,trivial⟩
                    try refine⟨?_,trivial⟩
                    all_goals first|exact Or.inl rfl|exact bB
                   try refine⟨?_,trivial⟩
                   try refine⟨?_,trivial⟩
                   refine⟨_,_,_,us hc (ax hI hM eQ),?_⟩;cbv
                   try refine⟨?_,trivial⟩
                   all_goals first|exact Or.inl rfl|exact bB
                  try refine⟨?_,trivial⟩
                  try refine⟨?_,trivial⟩
                  refine⟨_,gH (enc:=(ao M 0)) (l:=[qP,sk]) hM ⟨⟨(af _),rfl⟩,⟨(af _),rfl⟩,trivial⟩,?_⟩;cbv
                  try refine⟨?_,trivial⟩
                  refine⟨_,_,_,us hc (ax hI hM eQ),?_⟩;cbv
                  try refine⟨?_,trivial⟩
                  all_goals first|exact Or.inl rfl|exact bB
                try refine⟨?_,trivial⟩
                try refine⟨?_,trivial⟩
                refine⟨_,_,_,us hc (aA hI hM jB),?_⟩;cbv
                try refine⟨?_,trivial⟩
                refine⟨_,gH (enc:=(ao M 0)) (l:=[qP,sk]) hM ⟨⟨(af _),rfl⟩,⟨(af _),rfl⟩,trivial⟩,?_⟩;cbv
                try refine⟨?_,trivial⟩
                refine⟨_,_,_,us hc (ax hI hM eQ),?_⟩;cbv
                try refine⟨?_,trivial⟩
                all_goals first|exact Or.inl rfl|exact bB
              refine⟨?_,?_⟩
              ·as_aux_lemma=>
                refine⟨_,_,_,us hc (aA hI hM jB),?_⟩;cbv
                refine⟨?_,?_⟩
                ·as_aux_lemma=>
                  refine⟨_,ai hM mn rfl,?_⟩;cbv
                  refine⟨?_,?_⟩
                  ·refine⟨_,gH (enc:=(ao M 0)) (l:=[qP,sk]) hM ⟨⟨(af _),rfl⟩,⟨(af _),rfl⟩,trivial⟩,?_⟩;cbv
                   refine⟨?_,?_⟩
                   ·refine⟨_,_,_,us hc (ax hI hM eQ),?_⟩;cbv
                    try refine⟨?_,trivial⟩
                    try refine⟨?_,trivial⟩
                    all_goals first|exact Or.inl rfl|exact bB
                   try refine⟨?_,trivial⟩
                   try refine⟨?_,trivial⟩
                   refine⟨_,_,_,us hc (ax hI hM eQ),?_⟩;cbv
                   try refine⟨?_,trivial⟩
                   all_goals first|exact Or.inl rfl|exact bB
                  try refine⟨?_,trivial⟩
                  try refine⟨?_,trivial⟩
                  refine⟨_,gH (enc:=(ao M 0)) (l:=[qP,sk]) hM ⟨⟨(af _),rfl⟩,⟨(af _),rfl⟩,trivial⟩,?_⟩;cbv
                  try refine⟨?_,trivial⟩
                  refine⟨_,_,_,us hc (ax hI hM eQ),?_⟩;cbv
                  try refine⟨?_,trivial⟩
                  all_goals first|exact Or.inl rfl|exact bB
                try refine⟨?_,trivial⟩
                try refine⟨?_,trivial⟩
                refine⟨_,ai hM mn rfl,?_⟩;cbv
                try refine⟨?_,trivial⟩
                refine⟨_,gH (enc:=(ao M 0)) (l:=[qP,sk]) hM ⟨⟨(af _),rfl⟩,⟨(af _),rfl⟩,trivial⟩,?_⟩;cbv
                try refine⟨?_,trivial⟩
                refine⟨_,_,_,us hc (ax hI hM eQ),?_⟩;cbv
                try refine⟨?_,trivial⟩
                all_goals first|exact Or.inl rfl|exact bB
              try refine⟨?_,trivial⟩
              refine⟨?_,?_⟩
              ·refine⟨_,ai hM mn rfl,?_⟩;cbv
               try refine⟨?_,trivial⟩
               refine⟨_,_,_,us hc (aA hI hM jB),?_⟩;cbv
               try refine⟨?_,trivial⟩
               refine⟨_,gH (enc:=(ao M 0)) (l:=[qP,sk]) hM ⟨⟨(af _),rfl⟩,⟨(af _),rfl⟩,trivial⟩,?_⟩;cbv
               try refine⟨?_,trivial⟩
               refine⟨_,_,_,us hc (ax hI hM eQ),?_⟩;cbv
               try refine⟨?_,trivial⟩
               all_goals first|exact Or.inl rfl|exact bB
              try refine⟨?_,trivial⟩
              refine⟨_,_,_,us hc (aA hI hM jB),?_⟩;cbv
              try refine⟨?_,trivial⟩
              refine⟨_,ai hM mn rfl,?_⟩;cbv
              try refine⟨?_,trivial⟩
              refine⟨_,gH (enc:=(ao M 0)) (l:=[qP,sk]) hM ⟨⟨(af _),rfl⟩,⟨(af _),rfl⟩,trivial⟩,?_⟩;cbv
              try refine⟨?_,trivial⟩
              refine⟨_,_,_,us hc (ax hI hM eQ),?_⟩;cbv
              try refine⟨?_,trivial⟩
              all_goals first|exact Or.inl rfl|exact bB
            try refine⟨?_,trivial⟩
            refine⟨?_,?_⟩
            ·refine⟨_,ai hM mn rfl,?_⟩;cbv
             try refine⟨?_,trivial⟩
             refine⟨_,_,_,us hc (aG hI hM qg),?_⟩;cbv
             try refine⟨?_,trivial⟩
             refine⟨_,_,_,us hc (aA hI hM jB),?_⟩;cbv
             try refine⟨?_,trivial⟩
             refine⟨_,gH (enc:=(ao M 0)) (l:=[qP,sk]) hM ⟨⟨(af _),rfl⟩,⟨(af _),rfl⟩,trivial⟩,?_⟩;cbv
             try refine⟨?_,trivial⟩
             refine⟨_,_,_,us hc (ax hI hM eQ),?_⟩;cbv
             try refine⟨?_,trivial⟩
             all_goals first|exact Or.inl rfl|exact bB
            try refine⟨?_,trivial⟩
            refine⟨_,_,_,us hc (aG hI hM qg),?_⟩;cbv
            refine⟨?_,?_⟩
            ·refine⟨_,ai hM mn rfl,?_⟩;cbv
             try refine⟨?_,trivial⟩
             refine⟨_,_,_,us hc (aA hI hM jB),?_⟩;cbv
             try refine⟨?_,trivial⟩
             refine⟨_,gH (enc:=(ao M 0)) (l:=[qP,sk]) hM ⟨⟨(af _),rfl⟩,⟨(af _),rfl⟩,trivial⟩,?_⟩;cbv
             try refine⟨?_,trivial⟩
             refine⟨_,_,_,us hc (ax hI hM eQ),?_⟩;cbv
             try refine⟨?_,trivial⟩
             all_goals first|exact Or.inl rfl|exact bB
            try refine⟨?_,trivial⟩
            refine⟨_,_,_,us hc (aA hI hM jB),?_⟩;cbv
            try refine⟨?_,trivial⟩
            refine⟨_,ai hM mn rfl,?_⟩;cbv
            try refine⟨?_,trivial⟩
            refine⟨_,gH (enc:=(ao M 0)) (l:=[qP,sk]) hM ⟨⟨(af _),rfl⟩,⟨(af _),rfl⟩,trivial⟩,?_⟩;cbv
            try refine⟨?_,trivial⟩
            refine⟨_,_,_,us hc (ax hI hM eQ),?_⟩;cbv
            try refine⟨?_,trivial⟩
            all_goals first|exact Or.inl rfl|exact bB
          try refine⟨?_,trivial⟩
          refine⟨?_,?_⟩
          ·as_aux_lemma=>
            refine⟨_,ai hM mn rfl,?_⟩;cbv
            try refine⟨?_,trivial⟩
            refine⟨_,bJ (enc:=(aZ M 0)) (x:=Lp) hM (af _) rfl,?_⟩;cbv
            try refine⟨?_,trivial⟩
            refine⟨_,_,_,us hc (aG hI hM qg),?_⟩;cbv
            try refine⟨?_,trivial⟩
            refine⟨_,_,_,us hc (aA hI hM jB),?_⟩;cbv
            try refine⟨?_,trivial⟩
            refine⟨_,gH (enc:=(ao M 0)) (l:=[qP,sk]) hM ⟨⟨(af _),rfl⟩,⟨(af _),rfl⟩,trivial⟩,?_⟩;cbv
            try refine⟨?_,trivial⟩
            refine⟨_,_,_,us hc (ax hI hM eQ),?_⟩;cbv
            try refine⟨?_,trivial⟩
            all_goals first|exact Or.inl rfl|exact bB
          try refine⟨?_,trivial⟩
          refine⟨_,bJ (enc:=(aZ M 0)) (x:=Lp) hM (af _) rfl,?_⟩;cbv
          refine⟨?_,?_⟩
          ·refine⟨_,ai hM mn rfl,?_⟩;cbv
           try refine⟨?_,trivial⟩
           refine⟨_,_,_,us hc (aG hI hM qg),?_⟩;cbv
           try refine⟨?_,trivial⟩
           refine⟨_,_,_,us hc (aA hI hM jB),?_⟩;cbv
           try refine⟨?_,trivial⟩
           refine⟨_,gH (enc:=(ao M 0)) (l:=[qP,sk]) hM ⟨⟨(af _),rfl⟩,⟨(af _),rfl⟩,trivial⟩,?_⟩;cbv
           try refine⟨?_,trivial⟩
           refine⟨_,_,_,us hc (ax hI hM eQ),?_⟩;cbv
           try refine⟨?_,trivial⟩
           all_goals first|exact Or.inl rfl|exact bB
          try refine⟨?_,trivial⟩
          refine⟨_,_,_,us hc (aG hI hM qg),?_⟩;cbv
          refine⟨?_,?_⟩
          ·refine⟨_,ai hM mn rfl,?_⟩;cbv
           try refine⟨?_,trivial⟩
           refine⟨_,_,_,us hc (aA hI hM jB),?_⟩;cbv
           try refine⟨?_,trivial⟩
           refine⟨_,gH (enc:=(ao M 0)) (l:=[qP,sk]) hM ⟨⟨(af _),rfl⟩,⟨(af _),rfl⟩,trivial⟩,?_⟩;cbv
           try refine⟨?_,trivial⟩
           refine⟨_,_,_,us hc (ax hI hM eQ),?_⟩;cbv
           try refine⟨?_,trivial⟩
           all_goals first|exact Or.inl rfl|exact bB
          try refine⟨?_,trivial⟩
          refine⟨_,_,_,us hc (aA hI hM jB),?_⟩;cbv
          try refine⟨?_,trivial⟩
          refine⟨_,ai hM mn rfl,?_⟩;cbv
          try refine⟨?_,trivial⟩
          refine⟨_,gH (enc:=(ao M 0)) (l:=[qP,sk]) hM ⟨⟨(af _),rfl⟩,⟨(af _),rfl⟩,trivial⟩,?_⟩;cbv
          try refine⟨?_,trivial⟩
          refine⟨_,_,_,us hc (ax hI hM eQ),?_⟩;cbv
          try refine⟨?_,trivial⟩
          all_goals first|exact Or.inl rfl|exact bB
        try refine⟨?_,trivial⟩
        refine⟨?_,?_⟩
        ·as_aux_lemma=>
          refine⟨_,ai hM mn rfl,?_⟩;cbv
          try refine⟨?_,trivial⟩
          (refine⟨_,_,_,us hc ((aK (r:=0) hI hM Me).wk ?_),?_⟩;next=>exact⟨ay _,ay _,ay _,(aE hM),trivial⟩)
          cbv
          try refine⟨?_,trivial⟩
          refine⟨_,bJ (enc:=(aZ M 0)) (x:=Lp) hM (af _) rfl,?_⟩;cbv
          try refine⟨?_,trivial⟩
          refine⟨_,_,_,us hc (aG hI hM qg),?_⟩;cbv
          try refine⟨?_,trivial⟩
          refine⟨_,_,_,us hc (aA hI hM jB),?_⟩;cbv
          try refine⟨?_,trivial⟩
          refine⟨_,gH (enc:=(ao M 0)) (l:=[qP,sk]) hM ⟨⟨(af _),rfl⟩,⟨(af _),rfl⟩,trivial⟩,?_⟩;cbv
          try refine⟨?_,trivial⟩
          refine⟨_,_,_,us hc (ax hI hM eQ),?_⟩;cbv
          try refine⟨?_,trivial⟩
          all_goals first|exact Or.inl rfl|exact bB
        try refine⟨?_,trivial⟩
        (refine⟨_,_,_,us hc ((aK (r:=0) hI hM Me).wk ?_),?_⟩;next=>exact⟨ay _,ay _,ay _,(aE hM),trivial⟩)
        cbv
        refine⟨?_,?_⟩
        ·as_aux_lemma=>
          refine⟨_,ai hM mn rfl,?_⟩;cbv
          try refine⟨?_,trivial⟩
          refine⟨_,bJ (enc:=(aZ M 0)) (x:=Lp) hM (af _) rfl,?_⟩;cbv
          try refine⟨?_,trivial⟩
          refine⟨_,_,_,us hc (aG hI hM qg),?_⟩;cbv
          try refine⟨?_,trivial⟩
          refine⟨_,_,_,us hc (aA hI hM jB),?_⟩;cbv
          try refine⟨?_,trivial⟩
          refine⟨_,gH (enc:=(ao M 0)) (l:=[qP,sk]) hM ⟨⟨(af _),rfl⟩,⟨(af _),rfl⟩,trivial⟩,?_⟩;cbv
          try refine⟨?_,trivial⟩
          refine⟨_,_,_,us hc (ax hI hM eQ),?_⟩;cbv
          try refine⟨?_,trivial⟩
          all_goals first|exact Or.inl rfl|exact bB
        try refine⟨?_,trivial⟩
        refine⟨_,bJ (enc:=(aZ M 0)) (x:=Lp) hM (af _) rfl,?_⟩;cbv
        refine⟨?_,?_⟩
        ·refine⟨_,ai hM mn rfl,?_⟩;cbv
         try refine⟨?_,trivial⟩
         refine⟨_,_,_,us hc (aG hI hM qg),?_⟩;cbv
         try refine⟨?_,trivial⟩
         refine⟨_,_,_,us hc (aA hI hM jB),?_⟩;cbv
         try refine⟨?_,trivial⟩
         refine⟨_,gH (enc:=(ao M 0)) (l:=[qP,sk]) hM ⟨⟨(af _),rfl⟩,⟨(af _),rfl⟩,trivial⟩,?_⟩;cbv
         try refine⟨?_,trivial⟩
         refine⟨_,_,_,us hc (ax hI hM eQ),?_⟩;cbv
         try refine⟨?_,trivial⟩
         all_goals first|exact Or.inl rfl|exact bB
        try refine⟨?_,trivial⟩
        refine⟨_,_,_,us hc (aG hI hM qg),?_⟩;cbv
        refine⟨?_,?_⟩
        ·refine⟨_,ai hM mn rfl,?_⟩;cbv
         try refine⟨?_,trivial⟩
         refine⟨_,_,_,us hc (aA hI hM jB),?_⟩;cbv
         try refine⟨?_,trivial⟩
         refine⟨_,gH (enc:=(ao M 0)) (l:=[qP,sk]) hM ⟨⟨(af _),rfl⟩,⟨(af _),rfl⟩,trivial⟩,?_⟩;cbv
         try refine⟨?_,trivial⟩
         refine⟨_,_,_,us hc (ax hI hM eQ),?_⟩;cbv
         try refine⟨?_,trivial⟩
         all_goals first|exact Or.inl rfl|exact bB
        try refine⟨?_,trivial⟩
        refine⟨_,_,_,us hc (aA hI hM jB),?_⟩;cbv
        try refine⟨?_,trivial⟩
        refine⟨_,ai hM mn rfl,?_⟩;cbv
        try refine⟨?_,trivial⟩
        refine⟨_,gH (enc:=(ao M 0)) (l:=[qP,sk]) hM ⟨⟨(af _),rfl⟩,⟨(af _),rfl⟩,trivial⟩,?_⟩;cbv
        try refine⟨?_,trivial⟩
        refine⟨_,_,_,us hc (ax hI hM eQ),?_⟩;cbv
        try refine⟨?_,trivial⟩
        all_goals first|exact Or.inl rfl|exact bB
      try refine⟨?_,trivial⟩
      try refine⟨?_,trivial⟩
      refine⟨_,_,_,us hc (sd hI hM Xh (r:=0)),?_⟩;cbv
      refine⟨?_,?_⟩
      ·as_aux_lemma=>
        refine⟨_,ai hM mn rfl,?_⟩;cbv
        try refine⟨?_,trivial⟩
        (refine⟨_,_,_,us hc ((aK (r:=0) hI hM Me).wk ?_),?_⟩;next=>exact⟨ay _,ay _,ay _,(aE hM),trivial⟩)
        cbv
        try refine⟨?_,trivial⟩
        refine⟨_,bJ (enc:=(aZ M 0)) (x:=Lp) hM (af _) rfl,?_⟩;cbv
        try refine⟨?_,trivial⟩
        refine⟨_,_,_,us hc (aG hI hM qg),?_⟩;cbv
        try refine⟨?_,trivial⟩
        refine⟨_,_,_,us hc (aA hI hM jB),?_⟩;cbv
        try refine⟨?_,trivial⟩
        refine⟨_,gH (enc:=(ao M 0)) (l:=[qP,sk]) hM ⟨⟨(af _),rfl⟩,⟨(af _),rfl⟩,trivial⟩,?_⟩;cbv
        try refine⟨?_,trivial⟩
        refine⟨_,_,_,us hc (ax hI hM eQ),?_⟩;cbv
        try refine⟨?_,trivial⟩
        all_goals first|exact Or.inl rfl|exact bB
      try refine⟨?_,trivial⟩
      (refine⟨_,_,_,us hc ((aK (r:=0) hI hM Me).wk ?_),?_⟩;next=>exact⟨ay _,ay _,ay _,(aE hM),trivial⟩)
      cbv
      refine⟨?_,?_⟩
      ·as_aux_lemma=>
        refine⟨_,ai hM mn rfl,?_⟩;cbv
        try refine⟨?_,trivial⟩
        refine⟨_,bJ (enc:=(aZ M 0)) (x:=Lp) hM (af _) rfl,?_⟩;cbv
        try refine⟨?_,trivial⟩
        refine⟨_,_,_,us hc (aG hI hM qg),?_⟩;cbv
        try refine⟨?_,trivial⟩
        refine⟨_,_,_,us hc (aA hI hM jB),?_⟩;cbv
        try refine⟨?_,trivial⟩
        refine⟨_,gH (enc:=(ao M 0)) (l:=[qP,sk]) hM ⟨⟨(af _),rfl⟩,⟨(af _),rfl⟩,trivial⟩,?_⟩;cbv
        try refine⟨?_,trivial⟩
        refine⟨_,_,_,us hc (ax hI hM eQ),?_⟩;cbv
        try refine⟨?_,trivial⟩
        all_goals first|exact Or.inl rfl|exact bB
      try refine⟨?_,trivial⟩
      refine⟨_,bJ (enc:=(aZ M 0)) (x:=Lp) hM (af _) rfl,?_⟩;cbv
      refine⟨?_,?_⟩
      ·refine⟨_,ai hM mn rfl,?_⟩;cbv
       try refine⟨?_,trivial⟩
       refine⟨_,_,_,us hc (aG hI hM qg),?_⟩;cbv
       try refine⟨?_,trivial⟩
       refine⟨_,_,_,us hc (aA hI hM jB),?_⟩;cbv
       try refine⟨?_,trivial⟩
       refine⟨_,gH (enc:=(ao M 0)) (l:=[qP,sk]) hM ⟨⟨(af _),rfl⟩,⟨(af _),rfl⟩,trivial⟩,?_⟩;cbv
       try refine⟨?_,trivial⟩
       refine⟨_,_,_,us hc (ax hI hM eQ),?_⟩;cbv
       try refine⟨?_,trivial⟩
       all_goals first|exact Or.inl rfl|exact bB
      try refine⟨?_,trivial⟩
      refine⟨_,_,_,us hc (aG hI hM qg),?_⟩;cbv
      refine⟨?_,?_⟩
      ·refine⟨_,ai hM mn rfl,?_⟩;cbv
       try refine⟨?_,trivial⟩
       refine⟨_,_,_,us hc (aA hI hM jB),?_⟩;cbv
       try refine⟨?_,trivial⟩
       refine⟨_,gH (enc:=(ao M 0)) (l:=[qP,sk]) hM ⟨⟨(af _),rfl⟩,⟨(af _),rfl⟩,trivial⟩,?_⟩;cbv
       try refine⟨?_,trivial⟩
       refine⟨_,_,_,us hc (ax hI hM eQ),?_⟩;cbv
       try refine⟨?_,trivial⟩
       all_goals first|exact Or.inl rfl|exact bB
      try refine⟨?_,trivial⟩
      refine⟨_,_,_,us hc (aA hI hM jB),?_⟩;cbv
      try refine⟨?_,trivial⟩
      refine⟨_,ai hM mn rfl,?_⟩;cbv
      try refine⟨?_,trivial⟩
      refine⟨_,gH (enc:=(ao M 0)) (l:=[qP,sk]) hM ⟨⟨(af _),rfl⟩,⟨(af _),rfl⟩,trivial⟩,?_⟩;cbv
      try refine⟨?_,trivial⟩
      refine⟨_,_,_,us hc (ax hI hM eQ),?_⟩;cbv
      try refine⟨?_,trivial⟩
      all_goals first|exact Or.inl rfl|exact bB
     cbv
     refine ab h fun y64 ah4 h=>?_
     refine ab h fun Ra ah3 h=>?_
     refine ab h fun Vm ah2 h=>?_
     refine ab h fun VN ah1 h=>?_
     refine ab h fun ZK ah0 h=>?_
     refine ab h fun y69 ahZ h=>?_
     refine ab h fun y70 Xg h=>?_
     refine ab h fun Vq PO h=>?_
     refine ab h fun y72 Fl h=>?_
     refine ab h fun y73 Fk h=>?_
     refine aX none [(0,(vb (I.pick (I.pick (I.pick (I.pick (I.pick (I.pick (I.pick (I.pick (I.pick (I.pick (I.pick (I.pick (I.pick (I.aJ y2.2 0) (I.aJ y4.2 0) false) (I.aJ y6.2.2 0) false) (I.aJ y8.2 0) false) (I.aJ y9.2 0) false) (I.aJ sm.2 0) false) (I.aJ pW.2 0) false) Ra false) Vm false) VN false) (I.aJ y6.2.1 2) false) ZK false) y69 false) y73 false)))] [] g nx ?_ ?_
     ·cbv
      refine⟨?_,?_⟩
      ·as_aux_lemma=>
        try refine⟨?_,trivial⟩
        refine⟨_,fun hp=>us hc (jG hI hM (aw ah4 hp.1) (r:=0)),?_⟩;cbv
        try refine⟨?_,trivial⟩
        refine⟨_,fun hp=>us hc (bu hI hM (aw ah3 hp.1)),?_⟩;cbv
        try refine⟨?_,trivial⟩
        refine⟨_,fun hp=>us hc (bu hI hM (aw ah2 hp.1)),?_⟩;cbv
        try refine⟨?_,trivial⟩
        refine⟨_,fun hp=>us hc (bu hI hM (aw ah1 hp.1)),?_⟩;cbv
        try refine⟨?_,trivial⟩
        refine⟨_,fun hp=>us hc (bu hI hM (aw ah0 hp.1)),?_⟩;cbv
        try refine⟨?_,trivial⟩
        refine⟨_,gH (enc:=an) (l:=[0,0]) hM ⟨⟨(af _),rfl⟩,⟨(af _),rfl⟩,trivial⟩,?_⟩;cbv
        try refine⟨?_,trivial⟩
        refine⟨_,fun hp=>us hc (c6 hI hM (aw ahZ hp.1)),?_⟩;cbv
        refine⟨?_,?_⟩
        ·try refine⟨?_,trivial⟩
         refine⟨_,fun hp=>us hc (iu hI hM (aw Xg hp.1) (r:=0)),?_⟩;cbv
         try refine⟨?_,trivial⟩
         refine⟨_,fun hp=>ai hM (aw PO hp.1) rfl,?_⟩;cbv
         try refine⟨?_,trivial⟩
         refine⟨_,bJ (enc:=(ao M 0)) (x:=Vq) hM (af _) rfl,?_⟩;cbv
         try refine⟨?_,trivial⟩
         refine⟨_,fun hp=>us hc (ax hI hM (aw Fl hp.1)),?_⟩;cbv
         try refine⟨?_,trivial⟩
         refine⟨_,fun hp=>us hc (bu hI hM (aw Fk hp.1)),?_⟩;cbv
         all_goals first|exact Or.inl rfl|exact bB
        try refine⟨?_,trivial⟩
        refine⟨_,fun hp=>us hc (iu hI hM (aw Xg hp.1) (r:=0)),?_⟩;cbv
        refine⟨?_,?_⟩
        ·try refine⟨?_,trivial⟩
         refine⟨_,fun hp=>ai hM (aw PO hp.1) rfl,?_⟩;cbv
         try refine⟨?_,trivial⟩
         refine⟨_,bJ (enc:=(ao M 0)) (x:=Vq) hM (af _) rfl,?_⟩;cbv
         try refine⟨?_,trivial⟩
         refine⟨_,fun hp=>us hc (ax hI hM (aw Fl hp.1)),?_⟩;cbv
         try refine⟨?_,trivial⟩
         refine⟨_,fun hp=>us hc (bu hI hM (aw Fk hp.1)),?_⟩;cbv
         all_goals first|exact Or.inl rfl|exact bB
        as_aux_lemma=>
         try refine⟨?_,trivial⟩
         refine⟨_,fun hp=>ai hM (aw PO hp.1) rfl,?_⟩;cbv
         refine⟨?_,?_⟩
         ·try refine⟨?_,trivial⟩
          refine⟨_,bJ (enc:=(ao M 0)) (x:=Vq) hM (af _) rfl,?_⟩;cbv
          try refine⟨?_,trivial⟩
          refine⟨_,fun hp=>us hc (ax hI hM (aw Fl hp.1)),?_⟩;cbv
          try refine⟨?_,trivial⟩
          refine⟨_,fun hp=>us hc (bu hI hM (aw Fk hp.1)),?_⟩;cbv
          all_goals first|exact Or.inl rfl|exact bB
         try refine⟨?_,trivial⟩
         refine⟨_,bJ (enc:=(ao M 0)) (x:=Vq) hM (af _) rfl,?_⟩;cbv
         refine⟨?_,?_⟩
         ·try refine⟨?_,trivial⟩
          refine⟨_,fun hp=>us hc (ax hI hM (aw Fl hp.1)),?_⟩;cbv
          try refine⟨?_,trivial⟩
          refine⟨_,fun hp=>us hc (bu hI hM (aw Fk hp.1)),?_⟩;cbv
          all_goals first|exact Or.inl rfl|exact bB
         try refine⟨?_,trivial⟩
         refine⟨_,fun hp=>us hc (ax hI hM (aw Fl hp.1)),?_⟩;cbv
         try refine⟨?_,trivial⟩
         refine⟨_,fun hp=>us hc (bu hI hM (aw Fk hp.1)),?_⟩;cbv
         all_goals first|exact Or.inl rfl|exact bB
      try refine⟨?_,trivial⟩
      refine⟨_,fun hp=>us hc (jG hI hM (aw ah4 hp.1) (r:=0)),?_⟩;cbv
      try refine⟨?_,trivial⟩
      refine⟨_,fun hp=>us hc (bu hI hM (aw ah3 hp.1)),?_⟩;cbv
      try refine⟨?_,trivial⟩
      refine⟨_,fun hp=>us hc (bu hI hM (aw ah2 hp.1)),?_⟩;cbv
      try refine⟨?_,trivial⟩
      refine⟨_,fun hp=>us hc (bu hI hM (aw ah1 hp.1)),?_⟩;cbv
      try refine⟨?_,trivial⟩
      refine⟨_,fun hp=>us hc (bu hI hM (aw ah0 hp.1)),?_⟩;cbv
      try refine⟨?_,trivial⟩
      refine⟨_,gH (enc:=an) (l:=[0,0]) hM ⟨⟨(af _),rfl⟩,⟨(af _),rfl⟩,trivial⟩,?_⟩;cbv
      try refine⟨?_,trivial⟩
      refine⟨_,fun hp=>us hc (c6 hI hM (aw ahZ hp.1)),?_⟩;cbv
      refine⟨?_,?_⟩
      ·try refine⟨?_,trivial⟩
       refine⟨_,fun hp=>us hc (iu hI hM (aw Xg hp.1) (r:=0)),?_⟩;cbv
       try refine⟨?_,trivial⟩
       refine⟨_,fun hp=>ai hM (aw PO hp.1) rfl,?_⟩;cbv
       try refine⟨?_,trivial⟩
       refine⟨_,bJ (enc:=(ao M 0)) (x:=Vq) hM (af _) rfl,?_⟩;cbv
       try refine⟨?_,trivial⟩
       refine⟨_,fun hp=>us hc (ax hI hM (aw Fl hp.1)),?_⟩;cbv
       try refine⟨?_,trivial⟩
       refine⟨_,fun hp=>us hc (bu hI hM (aw Fk hp.1)),?_⟩;cbv
       all_goals first|exact Or.inl rfl|exact bB
      as_aux_lemma=>
       try refine⟨?_,trivial⟩
       refine⟨_,fun hp=>us hc (iu hI hM (aw Xg hp.1) (r:=0)),?_⟩;cbv
       refine⟨?_,?_⟩
       ·try refine⟨?_,trivial⟩
        refine⟨_,fun hp=>ai hM (aw PO hp.1) rfl,?_⟩;cbv
        try refine⟨?_,trivial⟩
        refine⟨_,bJ (enc:=(ao M 0)) (x:=Vq) hM (af _) rfl,?_⟩;cbv
        try refine⟨?_,trivial⟩
        refine⟨_,fun hp=>us hc (ax hI hM (aw Fl hp.1)),?_⟩;cbv
        try refine⟨?_,trivial⟩
        refine⟨_,fun hp=>us hc (bu hI hM (aw Fk hp.1)),?_⟩;cbv
        all_goals first|exact Or.inl rfl|exact bB
       try refine⟨?_,trivial⟩
       refine⟨_,fun hp=>ai hM (aw PO hp.1) rfl,?_⟩;cbv
       refine⟨?_,?_⟩
       ·try refine⟨?_,trivial⟩
        refine⟨_,bJ (enc:=(ao M 0)) (x:=Vq) hM (af _) rfl,?_⟩;cbv
        try refine⟨?_,trivial⟩
        refine⟨_,fun hp=>us hc (ax hI hM (aw Fl hp.1)),?_⟩;cbv
        try refine⟨?_,trivial⟩
        refine⟨_,fun hp=>us hc (bu hI hM (aw Fk hp.1)),?_⟩;cbv
        all_goals first|exact Or.inl rfl|exact bB
       try refine⟨?_,trivial⟩
       refine⟨_,bJ (enc:=(ao M 0)) (x:=Vq) hM (af _) rfl,?_⟩;cbv
       refine⟨?_,?_⟩
       ·try refine⟨?_,trivial⟩
        refine⟨_,fun hp=>us hc (ax hI hM (aw Fl hp.1)),?_⟩;cbv
        try refine⟨?_,trivial⟩
        refine⟨_,fun hp=>us hc (bu hI hM (aw Fk hp.1)),?_⟩;cbv
        all_goals first|exact Or.inl rfl|exact bB
       try refine⟨?_,trivial⟩
       refine⟨_,fun hp=>us hc (ax hI hM (aw Fl hp.1)),?_⟩;cbv
       try refine⟨?_,trivial⟩
       refine⟨_,fun hp=>us hc (bu hI hM (aw Fk hp.1)),?_⟩;cbv
       all_goals first|exact Or.inl rfl|exact bB
     cbv
     as_aux_lemma=>
      cbv;cases h;exact fin
end Ab
