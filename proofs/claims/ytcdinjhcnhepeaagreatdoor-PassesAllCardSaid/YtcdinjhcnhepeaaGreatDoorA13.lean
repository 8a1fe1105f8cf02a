/- PassesAll holds of all pairs of cores (no condition): a part of the proof: an abstract interpreter of the code that is proved sound, models of the functions, and laws of these models. -/
import Derived.Test.YtcdinjhcnhepeaaGreatDoorA02
import Derived.Test.YtcdinjhcnhepeaaGreatDoorA03
import Derived.Test.YtcdinjhcnhepeaaGreatDoorA04
import Derived.Test.YtcdinjhcnhepeaaGreatDoorA04c
import Derived.Test.YtcdinjhcnhepeaaGreatDoorA12
import Derived.Test.YtcdinjhcnhepeaaGreatDoorA06
import Derived.Test.YtcdinjhcnhepeaaGreatDoorA10
set_option linter.unusedVariables false
set_option linter.unusedSimpArgs false
set_option linter.unusedSectionVars false
namespace Ab
open Go Go.Proofs.Tryz
set_option maxHeartbeats 100000000
set_option maxRecDepth 100000
variable{I:Pr}(hI:I=ak){M:Md}(hM:M= .ak){n nx r s p q u rl:Nat}{g:Nat→Option Ob}
 include hI hM
theorem sI{v:Bool}(h:qf I M n=some v):
  cj 8 [] (vb v) g nx:=by
 refine Aq func8 c8 0 Il aoU [4020,4025,4030,4046,4051,4089,5009,5011] 155 ntmps8 [.tmp 0] hI (bF.cons (RI 0) (bF.cons (ab3 0) (vK PP im))) 8 (hd:=d8_) fun call hc=>?_;cbv;refine ah h fun y1 c4 h=>⟨_,_,_,us hc (lj hI hM c4 (r:=0)),?_⟩;cbv;refine ah h fun y2 sS h=>⟨_,_,_,us hc (vq hI hM sS (r:=0)),?_⟩;cbv;refine ah h fun y3 D8 h=>⟨_,_,_,us hc (lj hI hM D8 (r:=0)),?_⟩;cbv;refine ah h fun y4 nI h=>⟨_,_,_,us hc (vr hI hM nI (r:=0)),?_⟩;cbv;refine ah h fun y5 HB h=>⟨_,_,_,us hc (lj hI hM HB (r:=0)),?_⟩;cbv;refine ah h fun y6 yW h=>⟨_,_,_,us hc (uh hI hM yW (r:=0)),?_⟩;cbv;refine ah h fun y7 HA h=>⟨_,_,_,us hc (ui hI hM HA (r:=0)),?_⟩;cbv;refine ah h fun y8 OT h=>⟨_,_,_,us hc (wT hI hM OT (r:=0)),?_⟩;cbv;refine ah h fun y9 Mh h=>⟨_,_,_,us hc (yc hI hM Mh (r:=0)),?_⟩;cbv;refine ah h fun wY tV h=>⟨_,_,_,us hc (pW hI hM tV (r:=0)),?_⟩;cbv;refine ah h fun wL zQ h=>⟨_,_,_,us hc (BG hI hM zQ),?_⟩;cbv;refine ah h fun EI FO h=>⟨_,_,_,us hc (pW hI hM FO (r:=0)),?_⟩;cbv;refine ah h fun sP xz h=>⟨_,_,_,us hc (Er hI hM xz),?_⟩;cbv;refine ah h fun Lz J4 h=>?_
 (refine⟨_,_,_,us hc ((aU (r:=0) hI hM J4).wk ?_),?_⟩;next=>exact⟨aF _,aF _,aF _,(aK hM),trivial⟩)
 cbv;refine ah h fun H8 J2 h=>?_
 (refine⟨_,_,_,us hc ((aU (r:=0) hI hM J2).wk ?_),?_⟩;next=>exact⟨aF _,aF _,aF _,(aK hM),trivial⟩)
 cbv;refine⟨_,xh (enc:=ax) (l:=[0,1]) hM ⟨⟨(ao _),rfl⟩,⟨(ao _),rfl⟩,trivial⟩,?_⟩;cbv;refine ah h fun Ji OW h=>⟨_,_,_,us hc (aU hI hM OW),?_⟩;cbv;refine⟨_,xh (enc:=(bu M 0)) (l:=[Lz,H8,Ji]) hM ⟨⟨(ao _),rfl⟩,⟨(ao _),rfl⟩,⟨(ao _),rfl⟩,trivial⟩,?_⟩;cbv;refine ah h fun y17 agA h=>⟨_,_,_,us hc (bT hI hM agA),?_⟩;cbv;refine ah h fun Uw Vj h=>⟨_,_,_,us hc (bE hI hM Vj),?_⟩;cbv
 as_aux_lemma=>
  refine ah h fun y19 agz h=>?_
  (refine⟨_,_,_,us hc ((aU (r:=0) hI hM agz).wk ?_),?_⟩;next=>exact⟨aF _,aF _,aF _,(aK hM),trivial⟩)
  cbv;refine⟨_,cq (enc:=(bu M 0)) (x:=y19) hM (ao _) rfl,?_⟩;cbv;refine ah h fun R7 OV h=>⟨_,_,_,us hc (bT hI hM OV),?_⟩;cbv;refine ah h fun y21 agy h=>⟨_,_,_,us hc (bE hI hM agy),?_⟩;cbv;refine ah h fun y22 agx h=>?_
  (refine⟨_,_,_,us hc ((aU (r:=0) hI hM agx).wk ?_),?_⟩;next=>exact⟨aF _,aF _,aF _,(aK hM),trivial⟩)
  cbv;refine⟨_,cq (enc:=ax) (x:=0) hM (ao _) rfl,?_⟩;cbv;refine ah h fun y23 arB h=>⟨_,_,_,us hc (aU hI hM arB),?_⟩;cbv;refine ah h fun y24 arA h=>?_
  (refine⟨_,_,_,us hc ((aU (r:=0) hI hM arA).wk ?_),?_⟩;next=>exact⟨aF _,aF _,aF _,(aK hM),trivial⟩)
  cbv;refine⟨_,xh (enc:=ax) (l:=[1,2]) hM ⟨⟨(ao _),rfl⟩,⟨(ao _),rfl⟩,trivial⟩,?_⟩;cbv;refine ah h fun y25 agw h=>⟨_,_,_,us hc (aU hI hM agw),?_⟩;cbv;refine⟨_,xh (enc:=(bu M 0)) (l:=[y22,y23,y24,y25]) hM ⟨⟨(ao _),rfl⟩,⟨(ao _),rfl⟩,⟨(ao _),rfl⟩,⟨(ao _),rfl⟩,trivial⟩,?_⟩;cbv;refine ah h fun y26 arz h=>⟨_,_,_,us hc (bT hI hM arz),?_⟩;cbv;refine ah h fun y27 ary h=>⟨_,_,_,us hc (bE hI hM ary),?_⟩;cbv;refine⟨_,xh (enc:=(aA M 0)) (l:=[Uw,y21,y27]) hM ⟨⟨(ao _),rfl⟩,⟨(ao _),rfl⟩,⟨(ao _),rfl⟩,trivial⟩,?_⟩;cbv
  as_aux_lemma=>
   refine ah h fun YU aaL h=>?_;refine ah h fun y29 amn h=>?_;refine ah h fun Lp Mi h=>?_;refine ah h fun Od SM h=>?_;refine ah h fun y32 SL h=>?_;refine ah h fun k33 aaR h=>?_;refine ah h fun x34 O0 h=>?_;refine ah h fun l35 S0 h=>?_;apply Exists.intro;refine⟨?_,_,rfl,?_⟩
   ·cbv;refine⟨?_,?_⟩
    (refine⟨_,_,_,us hc ((aU (r:=0) hI hM aaL).wk ?_),?_⟩;next=>exact⟨aF _,aF _,aF _,(aK hM),trivial⟩)
    cbv;refine⟨?_,?_⟩
    (refine⟨_,_,_,us hc ((aU (r:=0) hI hM amn).wk ?_),?_⟩;next=>exact⟨aF _,aF _,aF _,(aK hM),trivial⟩)
    cbv;refine⟨?_,trivial⟩;refine⟨_,xh (enc:=ax) (l:=[0,1]) hM ⟨⟨(ao _),rfl⟩,⟨(ao _),rfl⟩,trivial⟩,?_⟩;cbv;refine⟨?_,trivial⟩;refine⟨_,_,_,us hc (aU hI hM Mi),?_⟩;cbv;refine⟨?_,trivial⟩;refine⟨_,xh (enc:=(bu M 0)) (l:=[YU,y29,Lp]) hM ⟨⟨(ao _),rfl⟩,⟨(ao _),rfl⟩,⟨(ao _),rfl⟩,trivial⟩,?_⟩;cbv;refine⟨?_,trivial⟩;refine⟨_,_,_,us hc (bT hI hM SM),?_⟩;cbv;refine⟨?_,trivial⟩;refine⟨_,_,_,us hc (bE hI hM SL),?_⟩;cbv;refine⟨_,aL hI aaR,?_⟩;cbv;refine⟨?_,trivial⟩;refine⟨_,dV hI hM O0 S0 (by decide) rfl rfl,?_⟩;cbv;(first|exact .inl rfl|exact bw);all_goals as_aux_lemma=>(repeat' first|exact .inl rfl|exact trivial|((refine⟨_,_,_,us hc ((aU (r:=0) hI hM aaL).wk ?_),?_⟩;next=>exact⟨aF _,aF _,aF _,(aK hM),trivial⟩);cbv)|((refine⟨_,_,_,us hc ((aU (r:=0) hI hM amn).wk ?_),?_⟩;next=>exact⟨aF _,aF _,aF _,(aK hM),trivial⟩);cbv)|(refine⟨_,xh (enc:=ax) (l:=[0,1]) hM ⟨⟨(ao _),rfl⟩,⟨(ao _),rfl⟩,trivial⟩,?_⟩;cbv)|(refine⟨_,_,_,us hc (aU hI hM Mi),?_⟩;cbv)|(refine⟨_,xh (enc:=(bu M 0)) (l:=[YU,y29,Lp]) hM ⟨⟨(ao _),rfl⟩,⟨(ao _),rfl⟩,⟨(ao _),rfl⟩,trivial⟩,?_⟩;cbv)|(refine⟨_,_,_,us hc (bT hI hM SM),?_⟩;cbv)|(refine⟨_,_,_,us hc (bE hI hM SL),?_⟩;cbv)|(refine⟨_,aL hI aaR,?_⟩;cbv)|(refine⟨_,dV hI hM O0 S0 (by decide) rfl rfl,?_⟩;cbv)|apply And.intro);all_goals exact bw
   cbv;refine ah h fun w36 arT h=>?_;refine Cd none [] [(16,.box [(.sl 0 (M.map (aA M 0) w36))])] g nx ?_ ?_
   ·cbv;(all_goals(repeat' apply And.intro));all_goals first|trivial|rfl|exact(aK hM)|exact alY hM arT
   cbv;refine ah h fun y37 arx h=>?_
   (refine⟨_,_,_,us hc ((aU (r:=0) hI hM arx).wk ?_),?_⟩;next=>exact⟨aF _,aF _,aF _,(aK hM),trivial⟩)
   cbv;refine ah h fun y38 Vi h=>?_
   (refine⟨_,_,_,us hc ((aU (r:=0) hI hM Vi).wk ?_),?_⟩;next=>exact⟨aF _,aF _,aF _,(aK hM),trivial⟩)
   cbv;refine⟨_,xh (enc:=ax) (l:=[0,1]) hM ⟨⟨(ao _),rfl⟩,⟨(ao _),rfl⟩,trivial⟩,?_⟩;cbv;refine ah h fun Uv Vh h=>⟨_,_,_,us hc (aU hI hM Vh),?_⟩;cbv;refine⟨_,xh (enc:=(bu M 0)) (l:=[y37,y38,Uv]) hM ⟨⟨(ao _),rfl⟩,⟨(ao _),rfl⟩,⟨(ao _),rfl⟩,trivial⟩,?_⟩;cbv;refine ah h fun AH Cn h=>⟨_,_,_,us hc (bT hI hM Cn),?_⟩;cbv;refine ah h fun Ub Vg h=>⟨_,_,_,us hc (bE hI hM Vg),?_⟩;cbv;refine ah h fun y42 Vf h=>?_
   (refine⟨_,_,_,us hc ((aU (r:=0) hI hM Vf).wk ?_),?_⟩;next=>exact⟨aF _,aF _,aF _,(aK hM),trivial⟩)
   cbv;refine⟨_,cq (enc:=(bu M 0)) (x:=y42) hM (ao _) rfl,?_⟩;cbv
   as_aux_lemma=>
    refine ah h fun y43 arw h=>⟨_,_,_,us hc (bT hI hM arw),?_⟩;cbv;refine ah h fun y44 arv h=>⟨_,_,_,us hc (bE hI hM arv),?_⟩;cbv;refine ah h fun y45 aru h=>?_
    (refine⟨_,_,_,us hc ((aU (r:=0) hI hM aru).wk ?_),?_⟩;next=>exact⟨aF _,aF _,aF _,(aK hM),trivial⟩)
    cbv;refine⟨_,cq (enc:=ax) (x:=0) hM (ao _) rfl,?_⟩;cbv;refine ah h fun y46 art h=>⟨_,_,_,us hc (aU hI hM art),?_⟩;cbv;refine ah h fun y47 ars h=>?_
    (refine⟨_,_,_,us hc ((aU (r:=0) hI hM ars).wk ?_),?_⟩;next=>exact⟨aF _,aF _,aF _,(aK hM),trivial⟩)
    cbv;refine⟨_,xh (enc:=ax) (l:=[1,2]) hM ⟨⟨(ao _),rfl⟩,⟨(ao _),rfl⟩,trivial⟩,?_⟩;cbv;refine ah h fun y48 arq h=>⟨_,_,_,us hc (aU hI hM arq),?_⟩;cbv;refine⟨_,xh (enc:=(bu M 0)) (l:=[y45,y46,y47,y48]) hM ⟨⟨(ao _),rfl⟩,⟨(ao _),rfl⟩,⟨(ao _),rfl⟩,⟨(ao _),rfl⟩,trivial⟩,?_⟩;cbv;refine ah h fun y49 Ve h=>⟨_,_,_,us hc (bT hI hM Ve),?_⟩;cbv;refine ah h fun Zk agv h=>⟨_,_,_,us hc (bE hI hM agv),?_⟩;cbv;refine⟨_,xh (enc:=(aA M 0)) (l:=[Ub,y44,Zk]) hM ⟨⟨(ao _),rfl⟩,⟨(ao _),rfl⟩,⟨(ao _),rfl⟩,trivial⟩,?_⟩;cbv;refine ah h fun Ua amm h=>?_;refine ah h fun H7 SK h=>?_;refine ah h fun YT aml h=>?_;refine ah h fun YS SJ h=>?_;refine ah h fun x55 amp h=>?_;refine ah h fun PL HD h=>?_;apply Exists.intro;refine⟨?_,_,rfl,?_⟩
    ·cbv;refine⟨?_,?_⟩
     (refine⟨_,_,_,us hc ((aU (r:=0) hI hM amm).wk ?_),?_⟩;next=>exact⟨aF _,aF _,aF _,(aK hM),trivial⟩)
     cbv;refine⟨?_,trivial⟩;refine⟨_,xh (enc:=ax) (l:=[0,0]) hM ⟨⟨(ao _),rfl⟩,⟨(ao _),rfl⟩,trivial⟩,?_⟩;cbv;refine⟨?_,trivial⟩;refine⟨_,_,_,us hc (aU hI hM SK),?_⟩;cbv;refine⟨?_,trivial⟩;refine⟨_,xh (enc:=(bu M 0)) (l:=[Ua,H7]) hM ⟨⟨(ao _),rfl⟩,⟨(ao _),rfl⟩,trivial⟩,?_⟩;cbv;refine⟨?_,trivial⟩;refine⟨_,_,_,us hc (bT hI hM aml),?_⟩;cbv;refine⟨?_,trivial⟩;refine⟨_,_,_,us hc (bE hI hM SJ),?_⟩;cbv;refine⟨_,aL hI aaR,?_⟩;cbv;refine⟨?_,trivial⟩;refine⟨_,dV hI hM amp HD (by decide) rfl rfl,?_⟩;cbv;(first|exact .inl rfl|exact bw);all_goals as_aux_lemma=>(repeat' first|exact .inl rfl|exact trivial|((refine⟨_,_,_,us hc ((aU (r:=0) hI hM amm).wk ?_),?_⟩;next=>exact⟨aF _,aF _,aF _,(aK hM),trivial⟩);cbv)|(refine⟨_,xh (enc:=ax) (l:=[0,0]) hM ⟨⟨(ao _),rfl⟩,⟨(ao _),rfl⟩,trivial⟩,?_⟩;cbv)|(refine⟨_,_,_,us hc (aU hI hM SK),?_⟩;cbv)|(refine⟨_,xh (enc:=(bu M 0)) (l:=[Ua,H7]) hM ⟨⟨(ao _),rfl⟩,⟨(ao _),rfl⟩,trivial⟩,?_⟩;cbv)|(refine⟨_,_,_,us hc (bT hI hM aml),?_⟩;cbv)|(refine⟨_,_,_,us hc (bE hI hM SJ),?_⟩;cbv)|(refine⟨_,aL hI aaR,?_⟩;cbv)|(refine⟨_,dV hI hM amp HD (by decide) rfl rfl,?_⟩;cbv)|apply And.intro);all_goals exact bw
    cbv;refine ah h fun w57 arS h=>?_;refine Cd none [] [(17,.box [(.sl 0 (M.map (aA M 0) w57))])] g nx ?_ ?_
    ·cbv;(all_goals(repeat' apply And.intro));all_goals first|trivial|rfl|exact(aK hM)|exact alY hM arS
    cbv
    as_aux_lemma=>
     refine ah h fun y58 amk h=>?_;refine ah h fun x59 SO h=>?_;refine ah h fun y60 amj h=>?_;refine ah h fun y61 ami h=>?_;refine ah h fun y62 amh h=>?_;refine ah h fun y63 amg h=>?_;refine bk none [(18,(.ptr (.s 18) 0))] [(18,.box [(.sl 0 (M.map (aA M 0) y63.af))])] g nx ?_ ?_
     ·cbv;refine⟨?_,?_⟩;refine⟨_,_,_,us hc (ui hI hM amk (r:=0)),?_⟩;cbv;refine⟨?_,?_⟩;refine⟨_,aq hM SO rfl,?_⟩;cbv;refine⟨?_,?_⟩
      (refine⟨_,_,_,us hc ((aU (r:=0) hI hM amj).wk ?_),?_⟩;next=>exact⟨aF _,aF _,aF _,(aK hM),trivial⟩)
      cbv;refine⟨?_,?_⟩;refine⟨_,cq (enc:=(bu M 0)) (x:=y60) hM (ao _) rfl,?_⟩;cbv;refine⟨?_,?_⟩;refine⟨_,_,_,us hc (bT hI hM ami),?_⟩;cbv;refine⟨?_,?_⟩;refine⟨_,_,_,us hc (bE hI hM amh),?_⟩;cbv;refine⟨?_,?_⟩;refine⟨_,xh (enc:=(aA M 0)) (l:=[x59,y62]) hM ⟨⟨(ao _),rfl⟩,⟨(ao _),rfl⟩,trivial⟩,?_⟩;cbv;refine⟨?_,?_⟩;refine⟨_,_,_,us hc (gV hI hM amg),?_⟩;cbv;refine⟨?_,trivial⟩;refine⟨?_,trivial⟩;(first|exact .inl rfl|exact bw);all_goals as_aux_lemma=>(repeat' first|exact .inl rfl|exact trivial|(refine⟨_,_,_,us hc (ui hI hM amk (r:=0)),?_⟩;cbv)|(refine⟨_,aq hM SO rfl,?_⟩;cbv)|((refine⟨_,_,_,us hc ((aU (r:=0) hI hM amj).wk ?_),?_⟩;next=>exact⟨aF _,aF _,aF _,(aK hM),trivial⟩);cbv)|(refine⟨_,cq (enc:=(bu M 0)) (x:=y60) hM (ao _) rfl,?_⟩;cbv)|(refine⟨_,_,_,us hc (bT hI hM ami),?_⟩;cbv)|(refine⟨_,_,_,us hc (bE hI hM amh),?_⟩;cbv)|(refine⟨_,xh (enc:=(aA M 0)) (l:=[x59,y62]) hM ⟨⟨(ao _),rfl⟩,⟨(ao _),rfl⟩,trivial⟩,?_⟩;cbv)|(refine⟨_,_,_,us hc (gV hI hM amg),?_⟩;cbv)|apply And.intro);all_goals exact bw
     cbv;refine ah h fun y64 amf h=>?_;refine ah h fun Uu ame h=>?_;refine ah h fun YR amd h=>?_;refine ah h fun Zj amc h=>?_;refine ah h fun y68 amb h=>?_;refine ah h fun y69 ama h=>?_;refine ah h fun y70 al9 h=>?_;refine ah h fun x71 amo h=>?_;refine ah h fun y72 al8 h=>?_;refine ah h fun y73 al7 h=>?_;refine bk none [(0,(vb (I.pick (I.pick (I.pick (I.pick (I.pick (I.pick (I.pick (I.pick (I.pick (I.pick (I.pick (I.pick (I.pick (I.aS y2.2 0) (I.aS y4.2 0) false) (I.aS y6.2.2 0) false) (I.aS y8.2 0) false) (I.aS y9.2 0) false) (I.aS wL.2 0) false) (I.aS sP.2 0) false) Uu false) YR false) Zj false) (I.aS y6.2.1 2) false) y68 false) y69 false) y73 false)))] [] g nx ?_ ?_
     ·cbv;refine⟨?_,?_⟩;refine⟨?_,trivial⟩;refine⟨_,fun hp=>us hc (lj hI hM (aE amf hp.1) (r:=0)),?_⟩;cbv;refine⟨?_,trivial⟩;refine⟨_,fun hp=>us hc (dJ hI hM (aE ame hp.1)),?_⟩;cbv;refine⟨?_,trivial⟩;refine⟨_,fun hp=>us hc (dJ hI hM (aE amd hp.1)),?_⟩;cbv;refine⟨?_,trivial⟩;refine⟨_,fun hp=>us hc (dJ hI hM (aE amc hp.1)),?_⟩;cbv;refine⟨?_,trivial⟩;refine⟨_,fun hp=>us hc (dJ hI hM (aE amb hp.1)),?_⟩;cbv;refine⟨?_,trivial⟩;refine⟨_,xh (enc:=ax) (l:=[0,0]) hM ⟨⟨(ao _),rfl⟩,⟨(ao _),rfl⟩,trivial⟩,?_⟩;cbv;refine⟨?_,trivial⟩;refine⟨_,fun hp=>us hc (dQ hI hM (aE ama hp.1)),?_⟩;cbv;refine⟨?_,?_⟩;refine⟨?_,trivial⟩;refine⟨_,fun hp=>us hc (pW hI hM (aE al9 hp.1) (r:=0)),?_⟩;cbv;refine⟨?_,trivial⟩;refine⟨_,fun hp=>aq hM (aE amo hp.1) rfl,?_⟩;cbv;refine⟨?_,trivial⟩;refine⟨_,cq (enc:=(aA M 0)) (x:=x71) hM (ao _) rfl,?_⟩;cbv;refine⟨?_,trivial⟩;refine⟨_,fun hp=>us hc (gV hI hM (aE al8 hp.1)),?_⟩;cbv;refine⟨?_,trivial⟩;refine⟨_,fun hp=>us hc (dJ hI hM (aE al7 hp.1)),?_⟩;cbv;(first|exact .inl rfl|exact bw);all_goals as_aux_lemma=>(repeat' first|exact .inl rfl|exact trivial|(refine⟨_,fun hp=>us hc (lj hI hM (aE amf hp.1) (r:=0)),?_⟩;cbv)|(refine⟨_,fun hp=>us hc (dJ hI hM (aE ame hp.1)),?_⟩;cbv)|(refine⟨_,fun hp=>us hc (dJ hI hM (aE amd hp.1)),?_⟩;cbv)|(refine⟨_,fun hp=>us hc (dJ hI hM (aE amc hp.1)),?_⟩;cbv)|(refine⟨_,fun hp=>us hc (dJ hI hM (aE amb hp.1)),?_⟩;cbv)|(refine⟨_,xh (enc:=ax) (l:=[0,0]) hM ⟨⟨(ao _),rfl⟩,⟨(ao _),rfl⟩,trivial⟩,?_⟩;cbv)|(refine⟨_,fun hp=>us hc (dQ hI hM (aE ama hp.1)),?_⟩;cbv)|(refine⟨_,fun hp=>us hc (pW hI hM (aE al9 hp.1) (r:=0)),?_⟩;cbv)|(refine⟨_,fun hp=>aq hM (aE amo hp.1) rfl,?_⟩;cbv)|(refine⟨_,cq (enc:=(aA M 0)) (x:=x71) hM (ao _) rfl,?_⟩;cbv)|(refine⟨_,fun hp=>us hc (gV hI hM (aE al8 hp.1)),?_⟩;cbv)|(refine⟨_,fun hp=>us hc (dJ hI hM (aE al7 hp.1)),?_⟩;cbv)|apply And.intro);all_goals exact bw
     cbv
     as_aux_lemma=>
      cbv;cases h;exact fin
end Ab
