/- PassesBlocks holds of all cores and names (no condition): a part of the proof: an abstract interpreter of the code that is proved sound, models of the functions, and laws of these models. -/
import Derived.Test.YtcdinjhcnhepeaaGreatDoorB03
import Derived.Test.YtcdinjhcnhepeaaGreatDoorB08
import Derived.Test.YtcdinjhcnhepeaaGreatDoorB04
import Derived.Test.YtcdinjhcnhepeaaGreatDoorB17
import Derived.Test.YtcdinjhcnhepeaaGreatDoorB05
import Derived.Test.YtcdinjhcnhepeaaGreatDoorB22
import Derived.Test.YtcdinjhcnhepeaaGreatDoorB20
import Derived.Test.YtcdinjhcnhepeaaGreatDoorB11
import Derived.Test.YtcdinjhcnhepeaaGreatDoorB21
set_option linter.unusedVariables false
set_option linter.unusedSimpArgs false
set_option linter.unusedSectionVars false
namespace Ab
open Go Go.Proofs.Tryz
set_option maxHeartbeats 100000000
set_option maxRecDepth 100000
variable{I:Pr}(hI:I=al){M:Md}(hM:M= .al){n nx r s p q u rl:Nat}{g:Nat→Option Ob}
 include hI hM
theorem rj{v:Bool}(h:oS I M n=some v):
  cv 8 [] (vb v) g nx:=by
 refine yi func8 c8 0 HD aoP [4020,4025,4030,4046,4051,4089,5009,5011] 155 ntmps8 [.tmp 0] hI (bp.cons (QU 0) (bp.cons (abI 0) (sX PP gL))) 8 (hd:=d8_) fun call hc=>?_;cbv;refine ag h fun y1 c9 h=>⟨_,_,_,us hc (kN hI hM c9 (r:=0)),?_⟩;cbv;refine ag h fun y2 uz h=>⟨_,_,_,us hc (tS hI hM uz (r:=0)),?_⟩;cbv;refine ag h fun y3 JA h=>⟨_,_,_,us hc (kN hI hM JA (r:=0)),?_⟩;cbv;refine ag h fun y4 oc h=>⟨_,_,_,us hc (tT hI hM oc (r:=0)),?_⟩;cbv;refine ag h fun y5 Jz h=>⟨_,_,_,us hc (kN hI hM Jz (r:=0)),?_⟩;cbv;refine ag h fun y6 Ao h=>⟨_,_,_,us hc (Hn hI hM Ao (r:=0)),?_⟩;cbv;refine ag h fun y7 Jy h=>⟨_,_,_,us hc (sM hI hM Jy (r:=0)),?_⟩;cbv;refine ag h fun y8 N2 h=>⟨_,_,_,us hc (vI hI hM N2 (r:=0)),?_⟩;cbv;refine ag h fun y9 RP h=>⟨_,_,_,us hc (xg hI hM RP (r:=0)),?_⟩;cbv;refine ag h fun yU wq h=>⟨_,_,_,us hc (oE hI hM wq (r:=0)),?_⟩;cbv;refine ag h fun uf BM h=>⟨_,_,_,us hc (nw hI hM BM),?_⟩;cbv;refine ag h fun Ns N7 h=>⟨_,_,_,us hc (oE hI hM N7 (r:=0)),?_⟩;cbv;refine ag h fun ue za h=>⟨_,_,_,us hc (pQ hI hM za (r:=0)),?_⟩;cbv;refine ag h fun Nr N6 h=>?_
 (refine⟨_,_,_,us hc ((aP (r:=0) hI hM N6).wk ?_),?_⟩;next=>exact⟨aA _,aA _,aA _,(aJ hM),trivial⟩)
 cbv;refine ag h fun KN JC h=>?_
 (refine⟨_,_,_,us hc ((aP (r:=0) hI hM JC).wk ?_),?_⟩;next=>exact⟨aA _,aA _,aA _,(aJ hM),trivial⟩)
 cbv;refine⟨_,vT (enc:=aq) (l:=[0,1]) hM ⟨⟨(ak _),rfl⟩,⟨(ak _),rfl⟩,trivial⟩,?_⟩;cbv;refine ag h fun KX JB h=>⟨_,_,_,us hc (aP hI hM JB),?_⟩;cbv;refine⟨_,vT (enc:=(bB M 0)) (l:=[Nr,KN,KX]) hM ⟨⟨(ak _),rfl⟩,⟨(ak _),rfl⟩,⟨(ak _),rfl⟩,trivial⟩,?_⟩;cbv;refine ag h fun Nq N5 h=>⟨_,_,_,us hc (bK hI hM N5),?_⟩;cbv;refine ag h fun Np UI h=>⟨_,_,_,us hc (bu hI hM UI),?_⟩;cbv
 as_aux_lemma=>
  refine ag h fun YB af5 h=>?_
  (refine⟨_,_,_,us hc ((aP (r:=0) hI hM af5).wk ?_),?_⟩;next=>exact⟨aA _,aA _,aA _,(aJ hM),trivial⟩)
  cbv;refine⟨_,cC (enc:=(bB M 0)) (x:=YB) hM (ak _) rfl,?_⟩;cbv;refine ag h fun PW N4 h=>⟨_,_,_,us hc (bK hI hM N4),?_⟩;cbv;refine ag h fun y21 af4 h=>⟨_,_,_,us hc (bu hI hM af4),?_⟩;cbv;refine ag h fun YA UH h=>?_
  (refine⟨_,_,_,us hc ((aP (r:=0) hI hM UH).wk ?_),?_⟩;next=>exact⟨aA _,aA _,aA _,(aJ hM),trivial⟩)
  cbv;refine⟨_,cC (enc:=aq) (x:=0) hM (ak _) rfl,?_⟩;cbv;refine ag h fun y23 af3 h=>⟨_,_,_,us hc (aP hI hM af3),?_⟩;cbv;refine ag h fun y24 af2 h=>?_
  (refine⟨_,_,_,us hc ((aP (r:=0) hI hM af2).wk ?_),?_⟩;next=>exact⟨aA _,aA _,aA _,(aJ hM),trivial⟩)
  cbv;refine⟨_,vT (enc:=aq) (l:=[1,2]) hM ⟨⟨(ak _),rfl⟩,⟨(ak _),rfl⟩,trivial⟩,?_⟩;cbv;refine ag h fun y25 af1 h=>⟨_,_,_,us hc (aP hI hM af1),?_⟩;cbv;refine⟨_,vT (enc:=(bB M 0)) (l:=[YA,y23,y24,y25]) hM ⟨⟨(ak _),rfl⟩,⟨(ak _),rfl⟩,⟨(ak _),rfl⟩,⟨(ak _),rfl⟩,trivial⟩,?_⟩;cbv;refine ag h fun y26 arx h=>⟨_,_,_,us hc (bK hI hM arx),?_⟩;cbv;refine ag h fun y27 arw h=>⟨_,_,_,us hc (bu hI hM arw),?_⟩;cbv;refine⟨_,vT (enc:=(ay M 0)) (l:=[Np,y21,y27]) hM ⟨⟨(ak _),rfl⟩,⟨(ak _),rfl⟩,⟨(ak _),rfl⟩,trivial⟩,?_⟩;cbv
  as_aux_lemma=>
   refine ag h fun Rl RV h=>?_;refine ag h fun Yz RU h=>?_;refine ag h fun KM LD h=>?_;refine ag h fun No RT h=>?_;refine ag h fun y32 RS h=>?_;refine ag h fun k33 aaq h=>?_;refine ag h fun x34 al8 h=>?_;refine ag h fun WK R6 h=>?_;apply Exists.intro;refine⟨?_,_,rfl,?_⟩
   ·cbv;refine⟨?_,?_⟩
    (refine⟨_,_,_,us hc ((aP (r:=0) hI hM RV).wk ?_),?_⟩;next=>exact⟨aA _,aA _,aA _,(aJ hM),trivial⟩)
    cbv;refine⟨?_,?_⟩
    (refine⟨_,_,_,us hc ((aP (r:=0) hI hM RU).wk ?_),?_⟩;next=>exact⟨aA _,aA _,aA _,(aJ hM),trivial⟩)
    cbv;refine⟨?_,trivial⟩;refine⟨_,vT (enc:=aq) (l:=[0,1]) hM ⟨⟨(ak _),rfl⟩,⟨(ak _),rfl⟩,trivial⟩,?_⟩;cbv;refine⟨?_,trivial⟩;refine⟨_,_,_,us hc (aP hI hM LD),?_⟩;cbv;refine⟨?_,trivial⟩;refine⟨_,vT (enc:=(bB M 0)) (l:=[Rl,Yz,KM]) hM ⟨⟨(ak _),rfl⟩,⟨(ak _),rfl⟩,⟨(ak _),rfl⟩,trivial⟩,?_⟩;cbv;refine⟨?_,trivial⟩;refine⟨_,_,_,us hc (bK hI hM RT),?_⟩;cbv;refine⟨?_,trivial⟩;refine⟨_,_,_,us hc (bu hI hM RS),?_⟩;cbv;refine⟨_,aK hI aaq,?_⟩;cbv;refine⟨?_,trivial⟩;refine⟨_,mU hI hM al8 R6 (by decide) rfl rfl,?_⟩;cbv;(first|exact .inl rfl|exact bn);all_goals as_aux_lemma=>(repeat' first|exact .inl rfl|exact trivial|((refine⟨_,_,_,us hc ((aP (r:=0) hI hM RV).wk ?_),?_⟩;next=>exact⟨aA _,aA _,aA _,(aJ hM),trivial⟩);cbv)|((refine⟨_,_,_,us hc ((aP (r:=0) hI hM RU).wk ?_),?_⟩;next=>exact⟨aA _,aA _,aA _,(aJ hM),trivial⟩);cbv)|(refine⟨_,vT (enc:=aq) (l:=[0,1]) hM ⟨⟨(ak _),rfl⟩,⟨(ak _),rfl⟩,trivial⟩,?_⟩;cbv)|(refine⟨_,_,_,us hc (aP hI hM LD),?_⟩;cbv)|(refine⟨_,vT (enc:=(bB M 0)) (l:=[Rl,Yz,KM]) hM ⟨⟨(ak _),rfl⟩,⟨(ak _),rfl⟩,⟨(ak _),rfl⟩,trivial⟩,?_⟩;cbv)|(refine⟨_,_,_,us hc (bK hI hM RT),?_⟩;cbv)|(refine⟨_,_,_,us hc (bu hI hM RS),?_⟩;cbv)|(refine⟨_,aK hI aaq,?_⟩;cbv)|(refine⟨_,mU hI hM al8 R6 (by decide) rfl rfl,?_⟩;cbv)|apply And.intro);all_goals exact bn
   cbv;refine ag h fun w36 arO h=>?_;refine HH none [] [(16,.box [(.sl 0 (M.map (ay M 0) w36))])] g nx ?_ ?_
   ·cbv;(all_goals(repeat' apply And.intro));all_goals first|trivial|rfl|exact(aJ hM)|exact alE hM arO
   cbv;refine ag h fun y37 arv h=>?_
   (refine⟨_,_,_,us hc ((aP (r:=0) hI hM arv).wk ?_),?_⟩;next=>exact⟨aA _,aA _,aA _,(aJ hM),trivial⟩)
   cbv;refine ag h fun y38 UG h=>?_
   (refine⟨_,_,_,us hc ((aP (r:=0) hI hM UG).wk ?_),?_⟩;next=>exact⟨aA _,aA _,aA _,(aJ hM),trivial⟩)
   cbv;refine⟨_,vT (enc:=aq) (l:=[0,1]) hM ⟨⟨(ak _),rfl⟩,⟨(ak _),rfl⟩,trivial⟩,?_⟩;cbv;refine ag h fun TO UF h=>⟨_,_,_,us hc (aP hI hM UF),?_⟩;cbv;refine⟨_,vT (enc:=(bB M 0)) (l:=[y37,y38,TO]) hM ⟨⟨(ak _),rfl⟩,⟨(ak _),rfl⟩,⟨(ak _),rfl⟩,trivial⟩,?_⟩;cbv;refine ag h fun Dw BL h=>⟨_,_,_,us hc (bK hI hM BL),?_⟩;cbv;refine ag h fun Tn UE h=>⟨_,_,_,us hc (bu hI hM UE),?_⟩;cbv;refine ag h fun y42 UD h=>?_
   (refine⟨_,_,_,us hc ((aP (r:=0) hI hM UD).wk ?_),?_⟩;next=>exact⟨aA _,aA _,aA _,(aJ hM),trivial⟩)
   cbv;refine⟨_,cC (enc:=(bB M 0)) (x:=y42) hM (ak _) rfl,?_⟩;cbv
   as_aux_lemma=>
    refine ag h fun y43 aru h=>⟨_,_,_,us hc (bK hI hM aru),?_⟩;cbv;refine ag h fun y44 art h=>⟨_,_,_,us hc (bu hI hM art),?_⟩;cbv;refine ag h fun Tm af0 h=>?_
    (refine⟨_,_,_,us hc ((aP (r:=0) hI hM af0).wk ?_),?_⟩;next=>exact⟨aA _,aA _,aA _,(aJ hM),trivial⟩)
    cbv;refine⟨_,cC (enc:=aq) (x:=0) hM (ak _) rfl,?_⟩;cbv;refine ag h fun y46 ars h=>⟨_,_,_,us hc (aP hI hM ars),?_⟩;cbv;refine ag h fun y47 afZ h=>?_
    (refine⟨_,_,_,us hc ((aP (r:=0) hI hM afZ).wk ?_),?_⟩;next=>exact⟨aA _,aA _,aA _,(aJ hM),trivial⟩)
    cbv;refine⟨_,vT (enc:=aq) (l:=[1,2]) hM ⟨⟨(ak _),rfl⟩,⟨(ak _),rfl⟩,trivial⟩,?_⟩;cbv;refine ag h fun y48 arq h=>⟨_,_,_,us hc (aP hI hM arq),?_⟩;cbv;refine⟨_,vT (enc:=(bB M 0)) (l:=[Tm,y46,y47,y48]) hM ⟨⟨(ak _),rfl⟩,⟨(ak _),rfl⟩,⟨(ak _),rfl⟩,⟨(ak _),rfl⟩,trivial⟩,?_⟩;cbv;refine ag h fun y49 UC h=>⟨_,_,_,us hc (bK hI hM UC),?_⟩;cbv;refine ag h fun y50 arp h=>⟨_,_,_,us hc (bu hI hM arp),?_⟩;cbv;refine⟨_,vT (enc:=(ay M 0)) (l:=[Tn,y44,y50]) hM ⟨⟨(ak _),rfl⟩,⟨(ak _),rfl⟩,⟨(ak _),rfl⟩,trivial⟩,?_⟩;cbv;refine ag h fun y51 al5 h=>?_;refine ag h fun PV RR h=>?_;refine ag h fun y53 al4 h=>?_;refine ag h fun Yy RQ h=>?_;refine ag h fun x55 al7 h=>?_;refine ag h fun Sq Hg h=>?_;apply Exists.intro;refine⟨?_,_,rfl,?_⟩
    ·cbv;refine⟨?_,?_⟩
     (refine⟨_,_,_,us hc ((aP (r:=0) hI hM al5).wk ?_),?_⟩;next=>exact⟨aA _,aA _,aA _,(aJ hM),trivial⟩)
     cbv;refine⟨?_,trivial⟩;refine⟨_,vT (enc:=aq) (l:=[0,0]) hM ⟨⟨(ak _),rfl⟩,⟨(ak _),rfl⟩,trivial⟩,?_⟩;cbv;refine⟨?_,trivial⟩;refine⟨_,_,_,us hc (aP hI hM RR),?_⟩;cbv;refine⟨?_,trivial⟩;refine⟨_,vT (enc:=(bB M 0)) (l:=[y51,PV]) hM ⟨⟨(ak _),rfl⟩,⟨(ak _),rfl⟩,trivial⟩,?_⟩;cbv;refine⟨?_,trivial⟩;refine⟨_,_,_,us hc (bK hI hM al4),?_⟩;cbv;refine⟨?_,trivial⟩;refine⟨_,_,_,us hc (bu hI hM RQ),?_⟩;cbv;refine⟨_,aK hI aaq,?_⟩;cbv;refine⟨?_,trivial⟩;refine⟨_,mU hI hM al7 Hg (by decide) rfl rfl,?_⟩;cbv;(first|exact .inl rfl|exact bn);all_goals as_aux_lemma=>(repeat' first|exact .inl rfl|exact trivial|((refine⟨_,_,_,us hc ((aP (r:=0) hI hM al5).wk ?_),?_⟩;next=>exact⟨aA _,aA _,aA _,(aJ hM),trivial⟩);cbv)|(refine⟨_,vT (enc:=aq) (l:=[0,0]) hM ⟨⟨(ak _),rfl⟩,⟨(ak _),rfl⟩,trivial⟩,?_⟩;cbv)|(refine⟨_,_,_,us hc (aP hI hM RR),?_⟩;cbv)|(refine⟨_,vT (enc:=(bB M 0)) (l:=[y51,PV]) hM ⟨⟨(ak _),rfl⟩,⟨(ak _),rfl⟩,trivial⟩,?_⟩;cbv)|(refine⟨_,_,_,us hc (bK hI hM al4),?_⟩;cbv)|(refine⟨_,_,_,us hc (bu hI hM RQ),?_⟩;cbv)|(refine⟨_,aK hI aaq,?_⟩;cbv)|(refine⟨_,mU hI hM al7 Hg (by decide) rfl rfl,?_⟩;cbv)|apply And.intro);all_goals exact bn
    cbv;refine ag h fun w57 arN h=>?_;refine HH none [] [(17,.box [(.sl 0 (M.map (ay M 0) w57))])] g nx ?_ ?_
    ·cbv;(all_goals(repeat' apply And.intro));all_goals first|trivial|rfl|exact(aJ hM)|exact alE hM arN
    cbv
    as_aux_lemma=>
     refine ag h fun y58 al3 h=>?_;refine ag h fun x59 RX h=>?_;refine ag h fun y60 al2 h=>?_;refine ag h fun y61 al1 h=>?_;refine ag h fun y62 al0 h=>?_;refine ag h fun y63 alZ h=>?_;refine aY none [(18,(.ptr (.s 18) 0))] [(18,.box [(.sl 0 (M.map (ay M 0) y63.ab))])] g nx ?_ ?_
     ·cbv;refine⟨?_,?_⟩;refine⟨_,_,_,us hc (sM hI hM al3 (r:=0)),?_⟩;cbv;refine⟨?_,?_⟩;refine⟨_,ao hM RX rfl,?_⟩;cbv;refine⟨?_,?_⟩
      (refine⟨_,_,_,us hc ((aP (r:=0) hI hM al2).wk ?_),?_⟩;next=>exact⟨aA _,aA _,aA _,(aJ hM),trivial⟩)
      cbv;refine⟨?_,?_⟩;refine⟨_,cC (enc:=(bB M 0)) (x:=y60) hM (ak _) rfl,?_⟩;cbv;refine⟨?_,?_⟩;refine⟨_,_,_,us hc (bK hI hM al1),?_⟩;cbv;refine⟨?_,?_⟩;refine⟨_,_,_,us hc (bu hI hM al0),?_⟩;cbv;refine⟨?_,?_⟩;refine⟨_,vT (enc:=(ay M 0)) (l:=[x59,y62]) hM ⟨⟨(ak _),rfl⟩,⟨(ak _),rfl⟩,trivial⟩,?_⟩;cbv;refine⟨?_,?_⟩;refine⟨_,_,_,us hc (gF hI hM alZ),?_⟩;cbv;refine⟨?_,trivial⟩;refine⟨?_,trivial⟩;(first|exact .inl rfl|exact bn);all_goals as_aux_lemma=>(repeat' first|exact .inl rfl|exact trivial|(refine⟨_,_,_,us hc (sM hI hM al3 (r:=0)),?_⟩;cbv)|(refine⟨_,ao hM RX rfl,?_⟩;cbv)|((refine⟨_,_,_,us hc ((aP (r:=0) hI hM al2).wk ?_),?_⟩;next=>exact⟨aA _,aA _,aA _,(aJ hM),trivial⟩);cbv)|(refine⟨_,cC (enc:=(bB M 0)) (x:=y60) hM (ak _) rfl,?_⟩;cbv)|(refine⟨_,_,_,us hc (bK hI hM al1),?_⟩;cbv)|(refine⟨_,_,_,us hc (bu hI hM al0),?_⟩;cbv)|(refine⟨_,vT (enc:=(ay M 0)) (l:=[x59,y62]) hM ⟨⟨(ak _),rfl⟩,⟨(ak _),rfl⟩,trivial⟩,?_⟩;cbv)|(refine⟨_,_,_,us hc (gF hI hM alZ),?_⟩;cbv)|apply And.intro);all_goals exact bn
     cbv;refine ag h fun y64 alY h=>?_;refine ag h fun TN alX h=>?_;refine ag h fun Yx alW h=>?_;refine ag h fun Za alV h=>?_;refine ag h fun y68 alU h=>?_;refine ag h fun y69 alT h=>?_;refine ag h fun y70 alS h=>?_;refine ag h fun x71 al6 h=>?_;refine ag h fun y72 alR h=>?_;refine ag h fun y73 alQ h=>?_;refine aY none [(0,(vb (I.pick (I.pick (I.pick (I.pick (I.pick (I.pick (I.pick (I.pick (I.pick (I.pick (I.pick (I.pick (I.pick (I.aU y2.2 0) (I.aU y4.2 0) false) (I.aU y6.2.2 0) false) (I.aU y8.2 0) false) (I.aU y9.2 0) false) (I.aU uf.2 0) false) (I.aU ue.2 0) false) TN false) Yx false) Za false) (I.aU y6.2.1 2) false) y68 false) y69 false) y73 false)))] [] g nx ?_ ?_
     ·cbv;refine⟨?_,?_⟩;refine⟨?_,trivial⟩;refine⟨_,fun hp=>us hc (kN hI hM (aD alY hp.1) (r:=0)),?_⟩;cbv;refine⟨?_,trivial⟩;refine⟨_,fun hp=>us hc (dv hI hM (aD alX hp.1)),?_⟩;cbv;refine⟨?_,trivial⟩;refine⟨_,fun hp=>us hc (dv hI hM (aD alW hp.1)),?_⟩;cbv;refine⟨?_,trivial⟩;refine⟨_,fun hp=>us hc (dv hI hM (aD alV hp.1)),?_⟩;cbv;refine⟨?_,trivial⟩;refine⟨_,fun hp=>us hc (dv hI hM (aD alU hp.1)),?_⟩;cbv;refine⟨?_,trivial⟩;refine⟨_,vT (enc:=aq) (l:=[0,0]) hM ⟨⟨(ak _),rfl⟩,⟨(ak _),rfl⟩,trivial⟩,?_⟩;cbv;refine⟨?_,trivial⟩;refine⟨_,fun hp=>us hc (cL hI hM (aD alT hp.1)),?_⟩;cbv;refine⟨?_,?_⟩;refine⟨?_,trivial⟩;refine⟨_,fun hp=>us hc (oE hI hM (aD alS hp.1) (r:=0)),?_⟩;cbv;refine⟨?_,trivial⟩;refine⟨_,fun hp=>ao hM (aD al6 hp.1) rfl,?_⟩;cbv;refine⟨?_,trivial⟩;refine⟨_,cC (enc:=(ay M 0)) (x:=x71) hM (ak _) rfl,?_⟩;cbv;refine⟨?_,trivial⟩;refine⟨_,fun hp=>us hc (gF hI hM (aD alR hp.1)),?_⟩;cbv;refine⟨?_,trivial⟩;refine⟨_,fun hp=>us hc (dv hI hM (aD alQ hp.1)),?_⟩;cbv;(first|exact .inl rfl|exact bn);all_goals as_aux_lemma=>(repeat' first|exact .inl rfl|exact trivial|(refine⟨_,fun hp=>us hc (kN hI hM (aD alY hp.1) (r:=0)),?_⟩;cbv)|(refine⟨_,fun hp=>us hc (dv hI hM (aD alX hp.1)),?_⟩;cbv)|(refine⟨_,fun hp=>us hc (dv hI hM (aD alW hp.1)),?_⟩;cbv)|(refine⟨_,fun hp=>us hc (dv hI hM (aD alV hp.1)),?_⟩;cbv)|(refine⟨_,fun hp=>us hc (dv hI hM (aD alU hp.1)),?_⟩;cbv)|(refine⟨_,vT (enc:=aq) (l:=[0,0]) hM ⟨⟨(ak _),rfl⟩,⟨(ak _),rfl⟩,trivial⟩,?_⟩;cbv)|(refine⟨_,fun hp=>us hc (cL hI hM (aD alT hp.1)),?_⟩;cbv)|(refine⟨_,fun hp=>us hc (oE hI hM (aD alS hp.1) (r:=0)),?_⟩;cbv)|(refine⟨_,fun hp=>ao hM (aD al6 hp.1) rfl,?_⟩;cbv)|(refine⟨_,cC (enc:=(ay M 0)) (x:=x71) hM (ak _) rfl,?_⟩;cbv)|(refine⟨_,fun hp=>us hc (gF hI hM (aD alR hp.1)),?_⟩;cbv)|(refine⟨_,fun hp=>us hc (dv hI hM (aD alQ hp.1)),?_⟩;cbv)|apply And.intro);all_goals exact bn
     cbv
     as_aux_lemma=>
      cbv;cases h;exact fin
end Ab
