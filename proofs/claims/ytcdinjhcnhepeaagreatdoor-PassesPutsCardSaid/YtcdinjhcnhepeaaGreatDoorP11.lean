/- PassesPuts holds of every core (no condition): a part of the proof: an abstract interpreter of the code that is proved sound, models of the functions, and laws of these models. -/
import Derived.Test.YtcdinjhcnhepeaaGreatDoorP02
import Derived.Test.YtcdinjhcnhepeaaGreatDoorP03
import Derived.Test.YtcdinjhcnhepeaaGreatDoorP04
set_option linter.unusedVariables false
set_option linter.unusedSimpArgs false
namespace Ab
open Go Go.Proofs.Tryz
set_option maxHeartbeats 100000000
set_option maxRecDepth 100000
variable{I:Pr}(hI:I=an){M:Md}(hM:M= .an){n nx r s p q u rl:Nat}{g:Nat→Option Ob}
 include hI hM
theorem vD{a0:ai}{v:ai×Int}(h:uR I M n a0=some v):
  bQ 10 [(.agg (aX M p a0))] (.gd [(.agg (aX M r v.1)),(vi v.2)]) g nx:=by
 refine yc func10 c10 r abZ af9 [5] 16 ntmps10 [.cell 2 24,.tmp 3] hI (bh.cons (pX r) (bh.cons (tg r) (bh.cons (th r) (bh.cons (XY r) (bh.cons (XZ r) (bh.cons (wx r) (sL PP fQ))))))) 8 fun call hc=>?_
 cbv
 refine ae h fun y1 cR h=>⟨_,_,_,us hc (cP hI hM cR),?_⟩;cbv
 refine si h (fun h=>by cbv;cases h;exact fin) fun h=>?_
 cbv
 refine letE h fun n2 mP h=>⟨_,ak hI hM mP,?_⟩;cbv
 refine iu n (fun jJ aQ=>?_);cbv
 refine si h (fun h=>?_) fun h=>?_
 ·as_aux_lemma=>
   cbv
   refine ae h fun x3 jt h=>⟨_,al hM jt rfl,?_⟩;cbv
   refine⟨_,Ou (by rfl),?_⟩;cbv
   refine ae h fun l4 KN h=>⟨pM hI KN,_,_,xF (enc:=(aq M r)) hI hM KN (by have e0:=aH (enc:=(az M r)) hM;simp only[aq,vi,vs,vb,b8,dS,e0]),?_⟩;cbv
   refine aQ _ (lpD h [50009] (fun(l5,z6)=>[(19,(vi z6)),(20,.any)]) (fun(l5,z6)=>[(50007,.box [(.iq (.s 50031) (M.ln l5))]),(50031,.ow (.sl 3) none (M.map (aq M r) l5))]) fun AO m2 cS st h=>?_)
   obtain⟨l5,z6⟩:=st
   dsimp only[xb]at h
   cbv
   refine si h (fun h=>?_) fun h=>?_
   ·cbv
    refine ae h fun x7 Bb h=>⟨_,al hM Bb rfl,?_⟩;cbv
    refine⟨_,Ou (by rfl),?_⟩;cbv
    refine ae h fun l8 Sd h=>?_
    (refine⟨_,_,DB (enc:=(aq M r)) hI hM Sd ?_,?_⟩;next=>have e0:=aH (enc:=(az M r)) hM;simp only[aq,vi,vs,vb,b8,dS,e0])
    cbv
    exact bN (cS _ _ h)
   cbv
   intro l
   cbv
   refine letE h fun ub xE h=>⟨_,ak hI hM xE,?_⟩;cbv
   refine lp h (fun(iJ,wI,eg)=>[(10,(vi eg))]) (fun(iJ,wI,eg)=>[(5,.box [(.sl p (M.map bL iJ))]),(50031,.ow (.sl 3) none (M.map (aq M r) wI))]) fun M6 m3 jE st h=>?_
   obtain⟨iJ,wI,eg⟩:=st
   dsimp only[xa]at h
   cbv
   refine si h (fun h=>?_) fun h=>?_
   ·as_aux_lemma=>
     cbv
     refine ae h fun ym BO h=>⟨_,al hM BO rfl,?_⟩;cbv
     refine letE h fun DJ Ds h=>⟨_,ak hI hM Ds,?_⟩;cbv
     refine lp h (fun(tT,qF,ey)=>[(18,(vi ey))]) (fun(tT,qF,ey)=>[(5,.box [(.sl p (M.map bL tT))]),(50031,.ow (.sl 3) none (M.map (aq M r) qF))]) fun Qt m4 pW st h=>?_
     obtain⟨tT,qF,ey⟩:=st
     dsimp only[wZ]at h
     cbv
     refine si h (fun h=>?_) fun h=>?_
     ·as_aux_lemma=>
       cbv
       refine ae h fun dY Dp h=>⟨_,al hM Dp rfl,?_⟩;cbv
       try(refine⟨⟨rfl,rfl,rfl⟩,?_⟩;cbv)
       refine letE h fun u9 Hy h=>⟨_,⟨rfl,iz (enc:=ao) hI hM Hy rfl⟩,?_⟩;cbv
       refine ae h fun Vv yK h=>?_
       (first|refine⟨_,⟨aR hI hM yK,qP (enc:=ao) (l:=[eg,ey]) hI hM rfl⟩,?_⟩|refine⟨_,⟨rfl,aR hI hM yK,rfl,rfl,qP (enc:=ao) (l:=[eg,ey]) hI hM rfl⟩,?_⟩)
       cbv
       try(refine⟨rfl,?_⟩;cbv)
       refine ae h fun OL qi h=>?_
       (first|refine⟨⟨rfl,aR hI hM qi,rfl⟩,?_⟩|refine⟨⟨aR hI hM qi,trivial⟩,?_⟩|refine⟨aR hI hM qi,?_⟩)
       cbv
       try(refine⟨⟨by decide,by decide⟩,?_⟩;cbv)
       refine ae h fun Xs Ma h=>?_
       (first|refine⟨_,⟨rfl,rfl,aK hI Ma⟩,?_⟩|refine⟨_,aK hI Ma,?_⟩)
       cbv
       refine ae h fun zP LH h=>⟨_,_,rfl,ba hM LH,rfl,?_⟩;cbv
       refine ae h fun k26 ah2 h=>?_
       (first|refine⟨_,⟨rfl,rfl,aK hI ah2⟩,?_⟩|refine⟨_,aK hI ah2,?_⟩)
       cbv
       refine ae h fun qU acD h=>⟨_,_,rfl,ba hM acD,rfl,?_⟩;cbv
       refine ae h fun QB WS h=>⟨_,_,_,us hc (Ia hI hM WS),?_⟩;cbv
       apply Exists.intro;refine⟨?_,_,rfl,?_⟩
       ·cbv
        refine⟨?_,?_⟩
        ·refine⟨?_,trivial⟩
         refine⟨?_,trivial⟩
         all_goals exact .inl rfl
        refine⟨?_,trivial⟩
        refine⟨?_,trivial⟩
        all_goals exact .inl rfl
       cbv
       refine letE h fun n29 am4 h=>⟨_,ak hI hM am4,?_⟩;cbv
       refine lp h (fun(EJ,E9,CC)=>[(56,(vi CC))]) (fun(EJ,E9,CC)=>[(12851015,.box [(vs dY.head),(vi dY.kids),(.gs r (.c 12851015 2) (M.map (aW M r) EJ)),(vi 0),(.gs r (.c 12851015 4) (M.map ao E9)),(.v .nilFunc)])]) fun Qs m5 ox st h=>?_
       obtain⟨EJ,E9,CC⟩:=st
       dsimp only[wY]at h
       cbv
       refine si h (fun h=>?_) fun h=>?_
       ·as_aux_lemma=>
         cbv
         refine ae h fun Fu amM h=>⟨_,al hM amM rfl,?_⟩;cbv
         refine jU h fun j34 J0 hj h=>?_
         dsimp only at h
         refine aT none [(13,.any),(14,.any)] [(12851015,.box [(vs dY.head),(vi dY.kids),(.gs r (.c 12851015 2) (M.map (aW M r) j34)),(vi 0),(.gs r (.c 12851015 4) (M.map ao J0)),(.v .nilFunc)])] g nx ?_ ?_
         ·replace h:=hj
          cbv
          refine⟨?_,?_⟩
          ·refine⟨?_,trivial⟩
           refine ae h fun GM Dm h=>⟨_,al hM Dm rfl,?_⟩;cbv
           refine si h (fun h=>?_) fun h=>?_
           ·cbv
            refine⟨?_,trivial⟩
            refine⟨_,bJ (enc:=ao) (x:=0) hM (ah _) rfl,?_⟩;cbv
            refine⟨?_,trivial⟩
            refine ae h fun l37 adA h=>⟨_,aw (enc:=ao) hI hM adA (fun _=>rfl) rfl (fun _=>rfl),?_⟩;cbv
            refine⟨?_,trivial⟩
            cases h
            first|exact Or.inl rfl|exact bB
           cbv
           refine jU h fun s7 BV hj h=>?_
           dsimp only at h
           refine aT none [(7,(vi s7)),(0,.any),(6,.any)] [(12851015,.box [(vs dY.head),(vi dY.kids),(.gs r (.c 12851015 2) (M.map (aW M r) BV)),(vi 0),(.gs r (.c 12851015 4) (M.map ao E9)),(.v .nilFunc)])] g nx ?_ ?_
           ·replace h:=hj
            cbv
            refine⟨?_,trivial⟩
            refine ae h fun yq Ae h=>⟨fun _=>rfl,(.sl r (M.map ao yq)),g,nx,fun ρ=>by cbv;exact us hc (aD hI hM Ae),?_⟩;cbv
            refine⟨?_,trivial⟩
            refine letE h fun U6 RU h=>⟨_,ak hI hM RU,?_⟩;cbv
            refine ae h fun BS L2 h=>⟨_,_,dF (enc:=ao) hI hM L2 (by decide) rfl,?_⟩;cbv
            refine letE h fun HN L1 h=>?_
            refine letE h fun n44 ac8 h=>⟨_,_,gr (enc:=ao) hI hM L1 ac8 rfl (fun _=>rfl) (fun _=>rfl),?_⟩;cbv
            refine⟨_,ak hI hM RU,?_⟩;cbv
            refine si h (fun h=>?_) fun h=>?_
            ·cbv
             refine ae h fun JV L0 h=>?_
             apply Exists.intro;refine⟨?_,_,rfl,?_⟩
             ·cbv
              refine⟨?_,trivial⟩
              refine⟨?_,trivial⟩
              refine⟨_,bJ (enc:=(aW M r)) (x:=(⟨Fu.kind,Fu.name,Fu.num,[]⟩:aI)) hM ⟨rfl,rfl,rfl,(aH hM),trivial⟩ rfl,?_⟩;cbv
              refine⟨?_,trivial⟩
              refine⟨_,aw (enc:=(aW M r)) hI hM L0 (fun _=>rfl) rfl (fun _=>rfl),?_⟩;cbv
              refine⟨?_,trivial⟩
              all_goals exact .inl rfl
             cbv
             refine letE h fun U5 LO h=>⟨_,ak hI hM LO,?_⟩;cbv
             cases h
             first|exact Or.inl rfl|exact bB
            cbv
            refine ae h fun u47 acO h=>?_
            refine ae h fun Mo Si h=>?_
            apply Exists.intro;refine⟨?_,_,rfl,?_⟩
            ·cbv
             refine⟨?_,trivial⟩
             refine⟨?_,trivial⟩
             refine⟨_,bJ (enc:=(aW M r)) (x:=(⟨Fu.kind,Fu.name,Fu.num,HN⟩:aI)) hM ⟨rfl,rfl,rfl,(dg hM acO),trivial⟩ rfl,?_⟩;cbv
             refine⟨?_,trivial⟩
             refine⟨_,aw (enc:=(aW M r)) hI hM Si (fun _=>rfl) rfl (fun _=>rfl),?_⟩;cbv
             refine⟨?_,trivial⟩
             all_goals exact .inl rfl
            cbv
            refine letE h fun Pj LN h=>⟨_,ak hI hM LN,?_⟩;cbv
            cases h
            first|exact Or.inl rfl|exact bB
           clear hj
           cbv
           refine⟨?_,trivial⟩
           refine⟨_,bJ (enc:=ao) (x:=s7) hM (ah _) rfl,?_⟩;cbv
           refine⟨?_,trivial⟩
           refine ae h fun Qc Pb h=>⟨_,aw (enc:=ao) hI hM Pb (fun _=>rfl) rfl (fun _=>rfl),?_⟩;cbv
           refine⟨?_,trivial⟩
           cases h
           first|exact Or.inl rfl|exact bB
          refine⟨?_,trivial⟩
          refine ae h fun GM Dm h=>⟨_,al hM Dm rfl,?_⟩;cbv
          refine si h (fun h=>?_) fun h=>?_
          ·cbv
           refine⟨?_,trivial⟩
           refine⟨_,bJ (enc:=ao) (x:=0) hM (ah _) rfl,?_⟩;cbv
           refine⟨?_,trivial⟩
           refine ae h fun l37 adA h=>⟨_,aw (enc:=ao) hI hM adA (fun _=>rfl) rfl (fun _=>rfl),?_⟩;cbv
           refine⟨?_,trivial⟩
           cases h
           first|exact Or.inl rfl|exact bB
          cbv
          refine jU h fun s7 BV hj h=>?_
          dsimp only at h
          refine aT none [(7,(vi s7)),(0,.any),(6,.any)] [(12851015,.box [(vs dY.head),(vi dY.kids),(.gs r (.c 12851015 2) (M.map (aW M r) BV)),(vi 0),(.gs r (.c 12851015 4) (M.map ao E9)),(.v .nilFunc)])] g nx ?_ ?_
          ·replace h:=hj
           cbv
           refine⟨?_,trivial⟩
           refine ae h fun yq Ae h=>⟨fun _=>rfl,(.sl r (M.map ao yq)),g,nx,fun ρ=>by cbv;exact us hc (aD hI hM Ae),?_⟩;cbv
           refine⟨?_,trivial⟩
           refine letE h fun U6 RU h=>⟨_,ak hI hM RU,?_⟩;cbv
           refine ae h fun BS L2 h=>⟨_,_,dF (enc:=ao) hI hM L2 (by decide) rfl,?_⟩;cbv
           refine letE h fun HN L1 h=>?_
           refine letE h fun n44 ac8 h=>⟨_,_,gr (enc:=ao) hI hM L1 ac8 rfl (fun _=>rfl) (fun _=>rfl),?_⟩;cbv
           refine⟨_,ak hI hM RU,?_⟩;cbv
           refine si h (fun h=>?_) fun h=>?_
           ·cbv
            refine ae h fun JV L0 h=>?_
            apply Exists.intro;refine⟨?_,_,rfl,?_⟩
            ·cbv
             refine⟨?_,trivial⟩
             refine⟨?_,trivial⟩
             refine⟨_,bJ (enc:=(aW M r)) (x:=(⟨Fu.kind,Fu.name,Fu.num,[]⟩:aI)) hM ⟨rfl,rfl,rfl,(aH hM),trivial⟩ rfl,?_⟩;cbv
             refine⟨?_,trivial⟩
             refine⟨_,aw (enc:=(aW M r)) hI hM L0 (fun _=>rfl) rfl (fun _=>rfl),?_⟩;cbv
             refine⟨?_,trivial⟩
             all_goals exact .inl rfl
            cbv
            refine letE h fun U5 LO h=>⟨_,ak hI hM LO,?_⟩;cbv
            cases h
            first|exact Or.inl rfl|exact bB
           cbv
           refine ae h fun u47 acO h=>?_
           refine ae h fun Mo Si h=>?_
           apply Exists.intro;refine⟨?_,_,rfl,?_⟩
           ·cbv
            refine⟨?_,trivial⟩
            refine⟨?_,trivial⟩
            refine⟨_,bJ (enc:=(aW M r)) (x:=(⟨Fu.kind,Fu.name,Fu.num,HN⟩:aI)) hM ⟨rfl,rfl,rfl,(dg hM acO),trivial⟩ rfl,?_⟩;cbv
            refine⟨?_,trivial⟩
            refine⟨_,aw (enc:=(aW M r)) hI hM Si (fun _=>rfl) rfl (fun _=>rfl),?_⟩;cbv
            refine⟨?_,trivial⟩
            all_goals exact .inl rfl
           cbv
           refine letE h fun Pj LN h=>⟨_,ak hI hM LN,?_⟩;cbv
           cases h
           first|exact Or.inl rfl|exact bB
          clear hj
          cbv
          refine⟨?_,trivial⟩
          refine⟨_,bJ (enc:=ao) (x:=s7) hM (ah _) rfl,?_⟩;cbv
          refine⟨?_,trivial⟩
          refine ae h fun Qc Pb h=>⟨_,aw (enc:=ao) hI hM Pb (fun _=>rfl) rfl (fun _=>rfl),?_⟩;cbv
          refine⟨?_,trivial⟩
          cases h
          first|exact Or.inl rfl|exact bB
         clear hj
         cbv
         exact bN (ox _ _ h)
       cbv
       refine ae h fun x54 amH h=>?_
       apply Exists.intro;refine⟨?_,_,rfl,?_⟩
       ·cbv
        refine⟨_,al hM amH rfl,?_⟩;cbv
        refine⟨?_,trivial⟩
        all_goals exact .inl rfl
       cbv
       refine ae h fun k55 W0 h=>?_
       (first|refine⟨_,⟨rfl,rfl,aK hI W0⟩,?_⟩|refine⟨_,aK hI W0,?_⟩)
       cbv
       refine ae h fun x56 acy h=>⟨_,_,rfl,ba hM acy,rfl,?_⟩;cbv
       refine ae h fun Tp Hz h=>⟨_,bV hI hM Hz,?_⟩;cbv
       refine ae h fun UZ Hm h=>?_
       refine ae h fun JU Dv h=>?_
       refine ae h fun NV EW h=>?_
       apply Exists.intro;refine⟨?_,_,rfl,?_⟩
       ·cbv
        refine⟨_,_,_,⟨rfl,ba (enc:=(aq M r)) hM Hm,rfl,rfl⟩,?_⟩;cbv
        refine⟨?_,trivial⟩
        refine⟨_,bJ (enc:=(az M r)) (x:=(⟨dY.head,dY.kids,EJ,x54⟩:ag)) hM (ah _) rfl,?_⟩;cbv
        refine⟨?_,trivial⟩
        refine⟨_,aw (enc:=(az M r)) hI hM Dv (fun _=>rfl) rfl (fun _=>rfl),?_⟩;cbv
        refine⟨?_,trivial⟩
        (first|refine⟨_,qQ (enc:=(aq M r)) hI hM Hm EW (show 2<3 from by decide) rfl,?_⟩|refine⟨rfl,rfl,rfl,_,qQ (enc:=(aq M r)) hI hM Hm EW (show 2<3 from by decide) rfl,?_⟩)
        cbv
        all_goals exact .inl rfl
       cbv
       try(refine⟨rfl,?_⟩;cbv)
       refine lK hI ?_;cbv
       exact bN (pW _ _ h)
     cbv
     exact bN (jE _ _ h)
   cbv
   try(refine⟨rfl,?_⟩;cbv)
   refine ae h fun u67 amU h=>?_
   obtain rfl:=Option.some.inj h
   cbv
   all_goals(repeat' apply And.intro)
   all_goals first|trivial|rfl|exact(aH hM)|exact(dg hM amU)
 cbv
 cases h
end Ab
