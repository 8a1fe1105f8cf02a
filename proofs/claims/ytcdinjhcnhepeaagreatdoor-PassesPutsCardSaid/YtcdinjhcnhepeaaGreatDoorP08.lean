/- PassesPuts holds of every core (no condition): a part of the proof: an abstract interpreter of the code that is proved sound, models of the functions, and laws of these models. -/
import Derived.Test.YtcdinjhcnhepeaaGreatDoorP02
import Derived.Test.YtcdinjhcnhepeaaGreatDoorP03
import Derived.Test.YtcdinjhcnhepeaaGreatDoorP04
set_option linter.unusedVariables false
set_option linter.unusedSimpArgs false
namespace Ab
open Go Go.Proofs.Tryz
set_option maxHeartbeats 100000000
set_option maxRecDepth 100000
variable{I:Pr}(hI:I=an){M:Md}(hM:M= .an){n nx r s p q u rl:Nat}{g:Nat→Option Ob}
 include hI hM
theorem vB{a0:ai}{aV:ai}{v:ai}(h:lY I M n a0 aV=some v):
  bQ 70 [(.agg (aX M p a0)),(.fn (.func 71) [(.aP q (aX M p aV) 0)])] (.agg (aX M r v)) g nx:=by
 refine yc func70 c70 r QV Ul [5] 10 ntmps70 [.cell 4 24] hI (bh.cons (pX r) (bh.cons (Ko r) (bh.cons (Kp r) (bh.cons (tg r) (bh.cons (XT r) (bh.cons (th r) (bh.cons (wx r) (sL PP fQ)))))))) 8 fun call hc=>?_
 cbv
 refine letE h fun l1 L8 h=>⟨_,⟨rfl,iz (enc:=ao) hI hM L8 rfl⟩,?_⟩;cbv
 refine letE h fun n2 mP h=>⟨_,ak hI hM mP,?_⟩;cbv
 refine iu n (fun jJ aQ=>?_);cbv
 refine si h (fun h=>?_) fun h=>?_
 ·as_aux_lemma=>
   cbv
   refine ae h fun x3 jt h=>⟨_,al hM jt rfl,?_⟩;cbv
   refine⟨_,Ou (by rfl),?_⟩;cbv
   refine ae h fun l4 KN h=>⟨pM hI KN,_,_,xF (enc:=(aq M r)) hI hM KN (by have e0:=aH (enc:=(az M r)) hM;simp only[aq,vi,vs,vb,b8,dS,e0]),?_⟩;cbv
   refine aQ _ (lpD h [50009] (fun(l5,z6)=>[(19,(vi z6)),(20,.any)]) (fun(l5,z6)=>[(50007,.box [(.iq (.s 50031) (M.ln l5))]),(50031,.ow (.sl 3) none (M.map (aq M r) l5))]) fun AO m2 cS st h=>?_)
   obtain⟨l5,z6⟩:=st
   dsimp only[cI]at h
   cbv
   refine si h (fun h=>?_) fun h=>?_
   ·cbv
    refine ae h fun x7 Bb h=>⟨_,al hM Bb rfl,?_⟩;cbv
    refine⟨_,Ou (by rfl),?_⟩;cbv
    refine ae h fun l8 Sd h=>?_
    (refine⟨_,_,DB (enc:=(aq M r)) hI hM Sd ?_,?_⟩;next=>have e0:=aH (enc:=(az M r)) hM;simp only[aq,vi,vs,vb,b8,dS,e0])
    cbv
    exact bN (cS _ _ h)
   cbv
   intro l
   cbv
   refine letE h fun ub xE h=>⟨_,ak hI hM xE,?_⟩;cbv
   refine lp h (fun(iJ,wI,eg)=>[(10,(vi eg))]) (fun(iJ,wI,eg)=>[(5,.arr 1 (M.map ao iJ)),(50031,.ow (.sl 3) none (M.map (aq M r) wI))]) fun M6 m3 jE st h=>?_
   obtain⟨iJ,wI,eg⟩:=st
   dsimp only[dr]at h
   cbv
   refine si h (fun h=>?_) fun h=>?_
   ·as_aux_lemma=>
     cbv
     refine ae h fun ym BO h=>⟨_,al hM BO rfl,?_⟩;cbv
     refine letE h fun DJ Ds h=>⟨_,ak hI hM Ds,?_⟩;cbv
     refine lp h (fun(tT,qF,ey)=>[(18,(vi ey))]) (fun(tT,qF,ey)=>[(5,.arr 1 (M.map ao tT)),(50031,.ow (.sl 3) none (M.map (aq M r) qF))]) fun Qt m4 pW st h=>?_
     obtain⟨tT,qF,ey⟩:=st
     dsimp only[dq]at h
     cbv
     refine si h (fun h=>?_) fun h=>?_
     ·as_aux_lemma=>
       cbv
       refine ae h fun dY Dp h=>⟨_,al hM Dp rfl,?_⟩;cbv
       try(refine⟨⟨rfl,rfl,rfl⟩,?_⟩;cbv)
       refine letE h fun u9 Hy h=>⟨_,⟨rfl,iz (enc:=ao) hI hM Hy rfl⟩,?_⟩;cbv
       refine ae h fun Vv yK h=>?_
       (first|refine⟨_,⟨aR hI hM yK,qP (enc:=ao) (l:=[eg,ey]) hI hM rfl⟩,?_⟩|refine⟨_,⟨rfl,aR hI hM yK,rfl,rfl,qP (enc:=ao) (l:=[eg,ey]) hI hM rfl⟩,?_⟩)
       cbv
       try(refine⟨rfl,?_⟩;cbv)
       refine ae h fun OL qi h=>?_
       (first|refine⟨⟨rfl,aR hI hM qi,rfl⟩,?_⟩|refine⟨⟨aR hI hM qi,trivial⟩,?_⟩|refine⟨aR hI hM qi,?_⟩)
       cbv
       try(refine⟨⟨by decide,by decide⟩,?_⟩;cbv)
       refine ae h fun u24 xD h=>?_
       (first|refine⟨⟨rfl,aR hI hM xD,rfl⟩,?_⟩|refine⟨⟨aR hI hM xD,trivial⟩,?_⟩|refine⟨aR hI hM xD,?_⟩)
       cbv
       refine ae h fun u25 EV h=>?_
       (first|refine⟨⟨rfl,rfl,rfl,aR hI hM EV,rfl,(by have hq:=dI (enc:=ao) hM (fun _=>rfl) ([eg,ey]);rw[eb.eq_def]at hq;exact hq)⟩,?_⟩|refine⟨⟨aR hI hM EV,(by have hq:=dI (enc:=ao) hM (fun _=>rfl) ([eg,ey]);rw[eb.eq_def]at hq;exact hq)⟩,?_⟩)
       cbv
       apply Exists.intro;refine⟨?_,_,rfl,?_⟩
       ·cbv
        refine⟨?_,?_⟩
        ·refine⟨?_,trivial⟩
         refine⟨?_,trivial⟩
         all_goals exact .inl rfl
        refine⟨?_,trivial⟩
        refine⟨?_,trivial⟩
        all_goals exact .inl rfl
       cbv
       refine letE h fun Xa ade h=>⟨_,ak hI hM ade,?_⟩;cbv
       refine lp h (fun(oQ,sV,yo)=>[(56,(vi yo))]) (fun(oQ,sV,yo)=>[(12915008,.box [(vs dY.head),(vi dY.kids),(.gs r (.c 12915008 2) (M.map (aW M r) oQ)),(vi 0),(.gs r (.c 12915008 4) (M.map ao sV)),(.fn (.func 71) [(.aP q [(.sl p (M.map (aq M p) aV.blocks))] 0)])])]) fun Qs m5 ox st h=>?_
       obtain⟨oQ,sV,yo⟩:=st
       dsimp only[cH]at h
       cbv
       refine si h (fun h=>?_) fun h=>?_
       ·as_aux_lemma=>
         cbv
         refine ae h fun fw Ry h=>⟨_,al hM Ry rfl,?_⟩;cbv
         refine jU h fun Ts j32 hj h=>?_
         dsimp only at h
         refine aT none [(13,.any),(14,.any)] [(12915008,.box [(vs dY.head),(vi dY.kids),(.gs r (.c 12915008 2) (M.map (aW M r) Ts)),(vi 0),(.gs r (.c 12915008 4) (M.map ao j32)),(.fn (.func 71) [(.aP q [(.sl p (M.map (aq M p) aV.blocks))] 0)])])] g nx ?_ ?_
         ·replace h:=hj
          cbv
          refine⟨?_,?_⟩
          ·refine⟨?_,trivial⟩
           refine ae h fun wB Di h=>⟨fun _=>rfl,(.sl r (M.map ao wB)),g,nx,fun ρ=>by cbv;exact us hc (lz hI hM Di),?_⟩;cbv
           refine ae h fun y34 Ly h=>⟨_,_,_,us hc (dj hI hM Ly),?_⟩;cbv
           refine si h (fun h=>?_) fun h=>?_
           ·as_aux_lemma=>
             cbv
             refine Ot h fun J0 Py Fa s7 BV hj h=>?_
             dsimp only at h
             refine aT none [(11,(vb J0))] [(12916010,.box [(vs Py),(vi Fa),(.sl p (M.map (aW M p) s7)),(vi BV)])] g nx ?_ ?_
             ·replace h:=hj
              cbv
              refine⟨?_,trivial⟩
              refine ae h fun yq Ae h=>⟨_,_,_,us hc (kM hI hM Ae),?_⟩;cbv
              refine ae h fun Lb Hp h=>?_
              refine ae h fun y42 Rh h=>?_
              apply Exists.intro;refine⟨?_,_,rfl,?_⟩
              ·cbv
               refine⟨_,al hM Hp rfl,?_⟩;cbv
               refine⟨?_,trivial⟩
               refine⟨_,_,_,us hc (jl hI hM Rh),?_⟩;cbv
               refine⟨?_,trivial⟩
               all_goals exact .inl rfl
              cbv
              refine⟨?_,trivial⟩
              cases h
              first|exact Or.inl rfl|exact bB
             clear hj
             cbv
             refine ae h fun k43 SD h=>?_
             refine ae h fun IV Ho h=>?_
             refine ae h fun x45 acA h=>?_
             refine ae h fun k46 L9 h=>?_
             refine ae h fun La Hn h=>?_
             refine ae h fun Zr LF h=>?_
             refine letE h fun Pj LN h=>?_
             apply Exists.intro;refine⟨?_,_,rfl,?_⟩
             ·cbv
              (first|refine⟨_,⟨rfl,rfl,aK hI SD⟩,?_⟩|refine⟨_,aK hI SD,?_⟩)
              cbv
              refine⟨_,_,rfl,ba hM Ho,rfl,?_⟩;cbv
              refine⟨_,al hM acA rfl,?_⟩;cbv
              (first|refine⟨_,⟨rfl,rfl,aK hI L9⟩,?_⟩|refine⟨_,aK hI L9,?_⟩)
              cbv
              refine⟨_,_,rfl,ba hM Hn,rfl,?_⟩;cbv
              refine⟨_,al hM LF rfl,?_⟩;cbv
              refine⟨_,ak hI hM LN,?_⟩;cbv
              all_goals exact .inl rfl
             cbv
             refine letE h fun W8 LM h=>⟨_,ak hI hM LM,?_⟩;cbv
             refine lp h (fun(Qx,P7)=>[(13,(vi Qx)),(56,(vi P7))]) (fun _=>[]) fun Vi m6 rp st h=>?_
             obtain⟨Qx,P7⟩:=st
             dsimp only[fO]at h
             cbv
             refine si h (fun h=>?_) fun h=>?_
             ·cbv
              refine ae h fun x53 acz h=>⟨_,al hM acz rfl,?_⟩;cbv
              refine si h (fun h=>?_) fun h=>?_
              ·cbv
               exact bN (rp _ _ h)
              cbv
              exact bN (rp _ _ h)
             cbv
             refine letE h fun ZM LL h=>⟨_,ak hI hM LL,?_⟩;cbv
             refine⟨_,gR (enc:=ao) (l:=[ZM,Qx,(I.wrap .i64 (I.sub (I.wrap .i64 (I.sub Pj yo)) 1))]) hM ⟨⟨(ah _),rfl⟩,⟨(ah _),rfl⟩,⟨(ah _),rfl⟩,trivial⟩,?_⟩;cbv
             refine ae h fun y57 acb h=>⟨_,fun hp=>us hc (dx hI hM (ax acb hp.1)),?_⟩;cbv
             refine si h (fun h=>?_) fun h=>?_
             ·as_aux_lemma=>
               cbv
               refine letE h fun S1 Ag h=>⟨_,ak hI hM Ag,?_⟩;cbv
               refine ae h fun JU Dv h=>⟨_,_,dF (enc:=ao) hI hM Dv (by decide) rfl,?_⟩;cbv
               refine letE h fun NV EW h=>?_
               refine letE h fun W7 Hs h=>⟨_,_,gr (enc:=ao) hI hM EW Hs rfl (fun _=>rfl) (fun _=>rfl),?_⟩;cbv
               refine⟨_,ak hI hM Ag,?_⟩;cbv
               refine si h (fun h=>?_) fun h=>?_
               ·cbv
                refine ae h fun Mn Du h=>?_
                apply Exists.intro;refine⟨?_,_,rfl,?_⟩
                ·cbv
                 refine⟨?_,trivial⟩
                 refine⟨?_,trivial⟩
                 refine⟨_,bJ (enc:=(aW M r)) (x:=(⟨fw.kind,fw.name,fw.num,[]⟩:aI)) hM ⟨rfl,rfl,rfl,(aH hM),trivial⟩ rfl,?_⟩;cbv
                 refine⟨?_,trivial⟩
                 refine⟨_,aw (enc:=(aW M r)) hI hM Du (fun _=>rfl) rfl (fun _=>rfl),?_⟩;cbv
                 refine⟨?_,trivial⟩
                 all_goals exact .inl rfl
                cbv
                refine letE h fun Mi Dq h=>⟨_,ak hI hM Dq,?_⟩;cbv
                refine⟨?_,trivial⟩
                refine⟨_,bJ (enc:=ao) (x:=(I.wrap .i64 (I.sub Mi 1))) hM (ah _) rfl,?_⟩;cbv
                refine⟨?_,trivial⟩
                refine ae h fun Pm Hw h=>⟨_,aw (enc:=ao) hI hM Hw (fun _=>rfl) rfl (fun _=>rfl),?_⟩;cbv
                refine⟨?_,trivial⟩
                cases h
                first|exact Or.inl rfl|exact bB
               cbv
               refine ae h fun u65 acJ h=>?_
               refine ae h fun NU Hv h=>?_
               apply Exists.intro;refine⟨?_,_,rfl,?_⟩
               ·cbv
                refine⟨?_,trivial⟩
                refine⟨?_,trivial⟩
                refine⟨_,bJ (enc:=(aW M r)) (x:=(⟨fw.kind,fw.name,fw.num,NV⟩:aI)) hM ⟨rfl,rfl,rfl,(dg hM acJ),trivial⟩ rfl,?_⟩;cbv
                refine⟨?_,trivial⟩
                refine⟨_,aw (enc:=(aW M r)) hI hM Hv (fun _=>rfl) rfl (fun _=>rfl),?_⟩;cbv
                refine⟨?_,trivial⟩
                all_goals exact .inl rfl
               cbv
               refine letE h fun n67 ac4 h=>⟨_,ak hI hM ac4,?_⟩;cbv
               refine⟨?_,trivial⟩
               refine⟨_,bJ (enc:=ao) (x:=(I.wrap .i64 (I.sub n67 1))) hM (ah _) rfl,?_⟩;cbv
               refine⟨?_,trivial⟩
               refine ae h fun l68 adv h=>⟨_,aw (enc:=ao) hI hM adv (fun _=>rfl) rfl (fun _=>rfl),?_⟩;cbv
               refine⟨?_,trivial⟩
               cases h
               first|exact Or.inl rfl|exact bB
             cbv
             refine letE h fun n69 ac3 h=>⟨_,ak hI hM ac3,?_⟩;cbv
             refine lp h (fun(Mm,HM,Nh)=>[(90,(vi Nh))]) (fun(Mm,HM,Nh)=>[(12915008,.box [(vs dY.head),(vi dY.kids),(.gs r (.c 12915008 2) (M.map (aW M r) Mm)),(vi 0),(.gs r (.c 12915008 4) (M.map ao sV)),(.fn (.func 71) [(.aP q [(.sl p (M.map (aq M p) aV.blocks))] 0)])]),(12916086,.box [(vs ⟨#[]⟩),(vi 0),(.v fC),(vi 0),(.gs r (.c 12916086 4) (M.map ao HM)),(.v .nilFunc)])]) fun Rm7 m7 vo st h=>?_
             obtain⟨Mm,HM,Nh⟩:=st
             dsimp only[cG]at h
             cbv
             refine si h (fun h=>?_) fun h=>?_
             ·as_aux_lemma=>
               cbv
               refine ae h fun BL acu h=>⟨_,al hM acu rfl,?_⟩;cbv
               refine si h (fun h=>?_) fun h=>?_
               ·cbv
                refine ae h fun Zp Rs h=>⟨_,al hM Rs rfl,?_⟩;cbv
                refine⟨_,bJ (enc:=ao) (x:=Zp) hM (ah _) rfl,?_⟩;cbv
                refine ae h fun Xj adt h=>⟨_,aw (enc:=ao) hI hM adt (fun _=>rfl) rfl (fun _=>rfl),?_⟩;cbv
                exact bN (vo _ _ h)
               cbv
               refine si h (fun h=>?_) fun h=>?_
               ·cbv
                refine ae h fun Zo LC h=>?_
                refine ae h fun x77 acs h=>?_
                refine ae h fun x78 acr h=>?_
                apply Exists.intro;refine⟨?_,_,rfl,?_⟩
                ·cbv
                 refine⟨_,al hM LC rfl,?_⟩;cbv
                 refine⟨_,al hM acs rfl,?_⟩;cbv
                 refine⟨_,al hM acr rfl,?_⟩;cbv
                 all_goals exact .inl rfl
                cbv
                refine⟨_,bJ (enc:=ao) (x:=x78) hM (ah _) rfl,?_⟩;cbv
                refine ae h fun ZR adr h=>⟨_,aw (enc:=ao) hI hM adr (fun _=>rfl) rfl (fun _=>rfl),?_⟩;cbv
                exact bN (vo _ _ h)
               cbv
               refine jU h fun j80 j81 hj h=>?_
               dsimp only at h
               refine aT none [(19,(vi j80)),(18,.any)] [(12915008,.box [(vs dY.head),(vi dY.kids),(.gs r (.c 12915008 2) (M.map (aW M r) j81)),(vi 0),(.gs r (.c 12915008 4) (M.map ao sV)),(.fn (.func 71) [(.aP q [(.sl p (M.map (aq M p) aV.blocks))] 0)])])] g nx ?_ ?_
               ·replace h:=hj
                cbv
                refine⟨?_,trivial⟩
                refine ae h fun y82 ab9 h=>⟨fun _=>rfl,(.sl r (M.map ao y82)),g,nx,fun ρ=>by cbv;exact us hc (dV hI hM ab9),?_⟩;cbv
                refine⟨?_,trivial⟩
                refine letE h fun U3 Hr h=>⟨_,ak hI hM Hr,?_⟩;cbv
                refine ae h fun zQ Sc h=>⟨_,_,dF (enc:=ao) hI hM Sc (by decide) rfl,?_⟩;cbv
                refine letE h fun Bj ado h=>?_
                refine letE h fun n86 acZ h=>⟨_,_,gr (enc:=ao) hI hM ado acZ rfl (fun _=>rfl) (fun _=>rfl),?_⟩;cbv
                refine⟨_,ak hI hM Hr,?_⟩;cbv
                refine si h (fun h=>?_) fun h=>?_
                ·cbv
                 refine ae h fun l87 adn h=>?_
                 apply Exists.intro;refine⟨?_,_,rfl,?_⟩
                 ·cbv
                  refine⟨?_,trivial⟩
                  refine⟨?_,trivial⟩
                  refine⟨_,bJ (enc:=(aW M r)) (x:=(⟨BL.kind,BL.name,BL.num,[]⟩:aI)) hM ⟨rfl,rfl,rfl,(aH hM),trivial⟩ rfl,?_⟩;cbv
                  refine⟨?_,trivial⟩
                  refine⟨_,aw (enc:=(aW M r)) hI hM adn (fun _=>rfl) rfl (fun _=>rfl),?_⟩;cbv
                  refine⟨?_,trivial⟩
                  all_goals exact .inl rfl
                 cbv
                 refine letE h fun n88 acY h=>⟨_,ak hI hM acY,?_⟩;cbv
                 cases h
                 first|exact Or.inl rfl|exact bB
                cbv
                refine ae h fun u89 acH h=>?_
                refine ae h fun l90 adl h=>?_
                apply Exists.intro;refine⟨?_,_,rfl,?_⟩
                ·cbv
                 refine⟨?_,trivial⟩
                 refine⟨?_,trivial⟩
                 refine⟨_,bJ (enc:=(aW M r)) (x:=(⟨BL.kind,BL.name,BL.num,Bj⟩:aI)) hM ⟨rfl,rfl,rfl,(dg hM acH),trivial⟩ rfl,?_⟩;cbv
                 refine⟨?_,trivial⟩
                 refine⟨_,aw (enc:=(aW M r)) hI hM adl (fun _=>rfl) rfl (fun _=>rfl),?_⟩;cbv
                 refine⟨?_,trivial⟩
                 all_goals exact .inl rfl
                cbv
                refine letE h fun n91 acX h=>⟨_,ak hI hM acX,?_⟩;cbv
                cases h
                first|exact Or.inl rfl|exact bB
               clear hj
               cbv
               refine⟨_,bJ (enc:=ao) (x:=j80) hM (ah _) rfl,?_⟩;cbv
               refine ae h fun l92 adk h=>⟨_,aw (enc:=ao) hI hM adk (fun _=>rfl) rfl (fun _=>rfl),?_⟩;cbv
               exact bN (vo _ _ h)
             cbv
             refine ae h fun x96 acm h=>?_
             apply Exists.intro;refine⟨?_,_,rfl,?_⟩
             ·cbv
              refine⟨_,al hM acm rfl,?_⟩;cbv
              all_goals exact .inl rfl
             cbv
             refine⟨?_,trivial⟩
             refine⟨_,bJ (enc:=ao) (x:=x96) hM (ah _) rfl,?_⟩;cbv
             refine⟨?_,trivial⟩
             refine ae h fun l97 adi h=>⟨_,aw (enc:=ao) hI hM adi (fun _=>rfl) rfl (fun _=>rfl),?_⟩;cbv
             refine⟨?_,trivial⟩
             cases h
             first|exact Or.inl rfl|exact bB
           cbv
           refine ae h fun k98 SB h=>?_
           refine ae h fun x99 ack h=>?_
           refine ae h fun aaT RK h=>?_
           refine ae h fun ad6 Jr h=>?_
           refine ae h fun aaS RJ h=>?_
           refine ae h fun aaR RI h=>?_
           refine letE h fun Ta R9 h=>?_
           apply Exists.intro;refine⟨?_,_,rfl,?_⟩
           ·cbv
            (first|refine⟨_,⟨rfl,rfl,aK hI SB⟩,?_⟩|refine⟨_,aK hI SB,?_⟩)
            cbv
            refine⟨_,_,rfl,ba hM ack,rfl,?_⟩;cbv
            refine⟨_,al hM RK rfl,?_⟩;cbv
            (first|refine⟨_,⟨rfl,rfl,aK hI Jr⟩,?_⟩|refine⟨_,aK hI Jr,?_⟩)
            cbv
            refine⟨_,_,rfl,ba hM RJ,rfl,?_⟩;cbv
            refine⟨_,al hM RI rfl,?_⟩;cbv
            refine⟨_,ak hI hM R9,?_⟩;cbv
            all_goals exact .inl rfl
           cbv
           refine⟨_,rfl,?_⟩;cbv
           refine lp h (fun _=>[]) (fun _=>[]) fun Rm8 m8 D2 st h=>?_
           dsimp only[fN]at h
           cbv
           refine eS (iB hI (by decide)) ?_;cbv
           refine letE h fun HJ Dt h=>⟨_,ak hI hM Dt,?_⟩;cbv
           refine⟨_,gR (enc:=ao) (l:=[HJ,0,(I.wrap .i64 (I.sub (I.wrap .i64 (I.sub Ta yo)) 1))]) hM ⟨⟨(ah _),rfl⟩,⟨(ah _),rfl⟩,⟨(ah _),rfl⟩,trivial⟩,?_⟩;cbv
           refine ae h fun aaI Rp h=>⟨_,fun hp=>us hc (dx hI hM (ax Rp hp.1)),?_⟩;cbv
           refine si h (fun h=>?_) fun h=>?_
           ·as_aux_lemma=>
             cbv
             refine letE h fun Xe Jm h=>⟨_,ak hI hM Jm,?_⟩;cbv
             refine ae h fun JY Sx h=>⟨_,_,dF (enc:=ao) hI hM Sx (by decide) rfl,?_⟩;cbv
             refine letE h fun Pt Sw h=>?_
             refine letE h fun air R8 h=>⟨_,_,gr (enc:=ao) hI hM Sw R8 rfl (fun _=>rfl) (fun _=>rfl),?_⟩;cbv
             refine⟨_,ak hI hM Jm,?_⟩;cbv
             refine si h (fun h=>?_) fun h=>?_
             ·cbv
              refine ae h fun JX Dw h=>?_
              apply Exists.intro;refine⟨?_,_,rfl,?_⟩
              ·cbv
               refine⟨?_,trivial⟩
               refine⟨?_,trivial⟩
               refine⟨_,bJ (enc:=(aW M r)) (x:=(⟨fw.kind,fw.name,fw.num,[]⟩:aI)) hM ⟨rfl,rfl,rfl,(aH hM),trivial⟩ rfl,?_⟩;cbv
               refine⟨?_,trivial⟩
               refine⟨_,aw (enc:=(aW M r)) hI hM Dw (fun _=>rfl) rfl (fun _=>rfl),?_⟩;cbv
               refine⟨?_,trivial⟩
               all_goals exact .inl rfl
              cbv
              refine letE h fun S9 R7 h=>⟨_,ak hI hM R7,?_⟩;cbv
              refine⟨?_,trivial⟩
              refine⟨_,bJ (enc:=ao) (x:=(I.wrap .i64 (I.sub S9 1))) hM (ah _) rfl,?_⟩;cbv
              refine⟨?_,trivial⟩
              refine ae h fun adV Sv h=>⟨_,aw (enc:=ao) hI hM Sv (fun _=>rfl) rfl (fun _=>rfl),?_⟩;cbv
              refine⟨?_,trivial⟩
              cases h
              first|exact Or.inl rfl|exact bB
             cbv
             refine ae h fun ahm RN h=>?_
             refine ae h fun Xo Su h=>?_
             apply Exists.intro;refine⟨?_,_,rfl,?_⟩
             ·cbv
              refine⟨?_,trivial⟩
              refine⟨?_,trivial⟩
              refine⟨_,bJ (enc:=(aW M r)) (x:=(⟨fw.kind,fw.name,fw.num,Pt⟩:aI)) hM ⟨rfl,rfl,rfl,(dg hM RN),trivial⟩ rfl,?_⟩;cbv
              refine⟨?_,trivial⟩
              refine⟨_,aw (enc:=(aW M r)) hI hM Su (fun _=>rfl) rfl (fun _=>rfl),?_⟩;cbv
              refine⟨?_,trivial⟩
              all_goals exact .inl rfl
             cbv
             refine letE h fun S8 R6 h=>⟨_,ak hI hM R6,?_⟩;cbv
             refine⟨?_,trivial⟩
             refine⟨_,bJ (enc:=ao) (x:=(I.wrap .i64 (I.sub S8 1))) hM (ah _) rfl,?_⟩;cbv
             refine⟨?_,trivial⟩
             refine ae h fun adU Ss h=>⟨_,aw (enc:=ao) hI hM Ss (fun _=>rfl) rfl (fun _=>rfl),?_⟩;cbv
             refine⟨?_,trivial⟩
             cases h
             first|exact Or.inl rfl|exact bB
           cbv
           refine⟨_,rfl,?_⟩;cbv
           refine lp h (fun _=>[]) (fun _=>[]) fun Rm9 m9 TT st h=>?_
           dsimp only[jX]at h
           cbv
           refine eS (iB hI (by decide)) ?_;cbv
           cases h
          refine⟨?_,trivial⟩
          refine ae h fun wB Di h=>⟨fun _=>rfl,(.sl r (M.map ao wB)),g,nx,fun ρ=>by cbv;exact us hc (lz hI hM Di),?_⟩;cbv
          refine ae h fun y34 Ly h=>⟨_,_,_,us hc (dj hI hM Ly),?_⟩;cbv
          refine si h (fun h=>?_) fun h=>?_
          ·as_aux_lemma=>
            cbv
            refine Ot h fun J0 Py Fa s7 BV hj h=>?_
            dsimp only at h
            refine aT none [(11,(vb J0))] [(12916010,.box [(vs Py),(vi Fa),(.sl p (M.map (aW M p) s7)),(vi BV)])] g nx ?_ ?_
            ·replace h:=hj
             cbv
             refine⟨?_,trivial⟩
             refine ae h fun yq Ae h=>⟨_,_,_,us hc (kM hI hM Ae),?_⟩;cbv
             refine ae h fun Lb Hp h=>?_
             refine ae h fun y42 Rh h=>?_
             apply Exists.intro;refine⟨?_,_,rfl,?_⟩
             ·cbv
              refine⟨_,al hM Hp rfl,?_⟩;cbv
              refine⟨?_,trivial⟩
              refine⟨_,_,_,us hc (jl hI hM Rh),?_⟩;cbv
              refine⟨?_,trivial⟩
              all_goals exact .inl rfl
             cbv
             refine⟨?_,trivial⟩
             cases h
             first|exact Or.inl rfl|exact bB
            clear hj
            cbv
            refine ae h fun k43 SD h=>?_
            refine ae h fun IV Ho h=>?_
            refine ae h fun x45 acA h=>?_
            refine ae h fun k46 L9 h=>?_
            refine ae h fun La Hn h=>?_
            refine ae h fun Zr LF h=>?_
            refine letE h fun Pj LN h=>?_
            apply Exists.intro;refine⟨?_,_,rfl,?_⟩
            ·cbv
             (first|refine⟨_,⟨rfl,rfl,aK hI SD⟩,?_⟩|refine⟨_,aK hI SD,?_⟩)
             cbv
             refine⟨_,_,rfl,ba hM Ho,rfl,?_⟩;cbv
             refine⟨_,al hM acA rfl,?_⟩;cbv
             (first|refine⟨_,⟨rfl,rfl,aK hI L9⟩,?_⟩|refine⟨_,aK hI L9,?_⟩)
             cbv
             refine⟨_,_,rfl,ba hM Hn,rfl,?_⟩;cbv
             refine⟨_,al hM LF rfl,?_⟩;cbv
             refine⟨_,ak hI hM LN,?_⟩;cbv
             all_goals exact .inl rfl
            cbv
            refine letE h fun W8 LM h=>⟨_,ak hI hM LM,?_⟩;cbv
            refine lp h (fun(Qx,P7)=>[(13,(vi Qx)),(56,(vi P7))]) (fun _=>[]) fun Vi m6 rp st h=>?_
            obtain⟨Qx,P7⟩:=st
            dsimp only[fO]at h
            cbv
            refine si h (fun h=>?_) fun h=>?_
            ·cbv
             refine ae h fun x53 acz h=>⟨_,al hM acz rfl,?_⟩;cbv
             refine si h (fun h=>?_) fun h=>?_
             ·cbv
              exact bN (rp _ _ h)
             cbv
             exact bN (rp _ _ h)
            cbv
            refine letE h fun ZM LL h=>⟨_,ak hI hM LL,?_⟩;cbv
            refine⟨_,gR (enc:=ao) (l:=[ZM,Qx,(I.wrap .i64 (I.sub (I.wrap .i64 (I.sub Pj yo)) 1))]) hM ⟨⟨(ah _),rfl⟩,⟨(ah _),rfl⟩,⟨(ah _),rfl⟩,trivial⟩,?_⟩;cbv
            refine ae h fun y57 acb h=>⟨_,fun hp=>us hc (dx hI hM (ax acb hp.1)),?_⟩;cbv
            refine si h (fun h=>?_) fun h=>?_
            ·as_aux_lemma=>
              cbv
              refine letE h fun S1 Ag h=>⟨_,ak hI hM Ag,?_⟩;cbv
              refine ae h fun JU Dv h=>⟨_,_,dF (enc:=ao) hI hM Dv (by decide) rfl,?_⟩;cbv
              refine letE h fun NV EW h=>?_
              refine letE h fun W7 Hs h=>⟨_,_,gr (enc:=ao) hI hM EW Hs rfl (fun _=>rfl) (fun _=>rfl),?_⟩;cbv
              refine⟨_,ak hI hM Ag,?_⟩;cbv
              refine si h (fun h=>?_) fun h=>?_
              ·cbv
               refine ae h fun Mn Du h=>?_
               apply Exists.intro;refine⟨?_,_,rfl,?_⟩
               ·cbv
                refine⟨?_,trivial⟩
                refine⟨?_,trivial⟩
                refine⟨_,bJ (enc:=(aW M r)) (x:=(⟨fw.kind,fw.name,fw.num,[]⟩:aI)) hM ⟨rfl,rfl,rfl,(aH hM),trivial⟩ rfl,?_⟩;cbv
                refine⟨?_,trivial⟩
                refine⟨_,aw (enc:=(aW M r)) hI hM Du (fun _=>rfl) rfl (fun _=>rfl),?_⟩;cbv
                refine⟨?_,trivial⟩
                all_goals exact .inl rfl
               cbv
               refine letE h fun Mi Dq h=>⟨_,ak hI hM Dq,?_⟩;cbv
               refine⟨?_,trivial⟩
               refine⟨_,bJ (enc:=ao) (x:=(I.wrap .i64 (I.sub Mi 1))) hM (ah _) rfl,?_⟩;cbv
               refine⟨?_,trivial⟩
               refine ae h fun Pm Hw h=>⟨_,aw (enc:=ao) hI hM Hw (fun _=>rfl) rfl (fun _=>rfl),?_⟩;cbv
               refine⟨?_,trivial⟩
               cases h
               first|exact Or.inl rfl|exact bB
              cbv
              refine ae h fun u65 acJ h=>?_
              refine ae h fun NU Hv h=>?_
              apply Exists.intro;refine⟨?_,_,rfl,?_⟩
              ·cbv
               refine⟨?_,trivial⟩
               refine⟨?_,trivial⟩
               refine⟨_,bJ (enc:=(aW M r)) (x:=(⟨fw.kind,fw.name,fw.num,NV⟩:aI)) hM ⟨rfl,rfl,rfl,(dg hM acJ),trivial⟩ rfl,?_⟩;cbv
               refine⟨?_,trivial⟩
               refine⟨_,aw (enc:=(aW M r)) hI hM Hv (fun _=>rfl) rfl (fun _=>rfl),?_⟩;cbv
               refine⟨?_,trivial⟩
               all_goals exact .inl rfl
              cbv
              refine letE h fun n67 ac4 h=>⟨_,ak hI hM ac4,?_⟩;cbv
              refine⟨?_,trivial⟩
              refine⟨_,bJ (enc:=ao) (x:=(I.wrap .i64 (I.sub n67 1))) hM (ah _) rfl,?_⟩;cbv
              refine⟨?_,trivial⟩
              refine ae h fun l68 adv h=>⟨_,aw (enc:=ao) hI hM adv (fun _=>rfl) rfl (fun _=>rfl),?_⟩;cbv
              refine⟨?_,trivial⟩
              cases h
              first|exact Or.inl rfl|exact bB
            cbv
            refine letE h fun n69 ac3 h=>⟨_,ak hI hM ac3,?_⟩;cbv
            refine lp h (fun(Mm,HM,Nh)=>[(90,(vi Nh))]) (fun(Mm,HM,Nh)=>[(12915008,.box [(vs dY.head),(vi dY.kids),(.gs r (.c 12915008 2) (M.map (aW M r) Mm)),(vi 0),(.gs r (.c 12915008 4) (M.map ao sV)),(.fn (.func 71) [(.aP q [(.sl p (M.map (aq M p) aV.blocks))] 0)])]),(12916086,.box [(vs ⟨#[]⟩),(vi 0),(.v fC),(vi 0),(.gs r (.c 12916086 4) (M.map ao HM)),(.v .nilFunc)])]) fun Rm7 m7 vo st h=>?_
            obtain⟨Mm,HM,Nh⟩:=st
            dsimp only[cG]at h
            cbv
            refine si h (fun h=>?_) fun h=>?_
            ·as_aux_lemma=>
              cbv
              refine ae h fun BL acu h=>⟨_,al hM acu rfl,?_⟩;cbv
              refine si h (fun h=>?_) fun h=>?_
              ·cbv
               refine ae h fun Zp Rs h=>⟨_,al hM Rs rfl,?_⟩;cbv
               refine⟨_,bJ (enc:=ao) (x:=Zp) hM (ah _) rfl,?_⟩;cbv
               refine ae h fun Xj adt h=>⟨_,aw (enc:=ao) hI hM adt (fun _=>rfl) rfl (fun _=>rfl),?_⟩;cbv
               exact bN (vo _ _ h)
              cbv
              refine si h (fun h=>?_) fun h=>?_
              ·cbv
               refine ae h fun Zo LC h=>?_
               refine ae h fun x77 acs h=>?_
               refine ae h fun x78 acr h=>?_
               apply Exists.intro;refine⟨?_,_,rfl,?_⟩
               ·cbv
                refine⟨_,al hM LC rfl,?_⟩;cbv
                refine⟨_,al hM acs rfl,?_⟩;cbv
                refine⟨_,al hM acr rfl,?_⟩;cbv
                all_goals exact .inl rfl
               cbv
               refine⟨_,bJ (enc:=ao) (x:=x78) hM (ah _) rfl,?_⟩;cbv
               refine ae h fun ZR adr h=>⟨_,aw (enc:=ao) hI hM adr (fun _=>rfl) rfl (fun _=>rfl),?_⟩;cbv
               exact bN (vo _ _ h)
              cbv
              refine jU h fun j80 j81 hj h=>?_
              dsimp only at h
              refine aT none [(19,(vi j80)),(18,.any)] [(12915008,.box [(vs dY.head),(vi dY.kids),(.gs r (.c 12915008 2) (M.map (aW M r) j81)),(vi 0),(.gs r (.c 12915008 4) (M.map ao sV)),(.fn (.func 71) [(.aP q [(.sl p (M.map (aq M p) aV.blocks))] 0)])])] g nx ?_ ?_
              ·replace h:=hj
               cbv
               refine⟨?_,trivial⟩
               refine ae h fun y82 ab9 h=>⟨fun _=>rfl,(.sl r (M.map ao y82)),g,nx,fun ρ=>by cbv;exact us hc (dV hI hM ab9),?_⟩;cbv
               refine⟨?_,trivial⟩
               refine letE h fun U3 Hr h=>⟨_,ak hI hM Hr,?_⟩;cbv
               refine ae h fun zQ Sc h=>⟨_,_,dF (enc:=ao) hI hM Sc (by decide) rfl,?_⟩;cbv
               refine letE h fun Bj ado h=>?_
               refine letE h fun n86 acZ h=>⟨_,_,gr (enc:=ao) hI hM ado acZ rfl (fun _=>rfl) (fun _=>rfl),?_⟩;cbv
               refine⟨_,ak hI hM Hr,?_⟩;cbv
               refine si h (fun h=>?_) fun h=>?_
               ·cbv
                refine ae h fun l87 adn h=>?_
                apply Exists.intro;refine⟨?_,_,rfl,?_⟩
                ·cbv
                 refine⟨?_,trivial⟩
                 refine⟨?_,trivial⟩
                 refine⟨_,bJ (enc:=(aW M r)) (x:=(⟨BL.kind,BL.name,BL.num,[]⟩:aI)) hM ⟨rfl,rfl,rfl,(aH hM),trivial⟩ rfl,?_⟩;cbv
                 refine⟨?_,trivial⟩
                 refine⟨_,aw (enc:=(aW M r)) hI hM adn (fun _=>rfl) rfl (fun _=>rfl),?_⟩;cbv
                 refine⟨?_,trivial⟩
                 all_goals exact .inl rfl
                cbv
                refine letE h fun n88 acY h=>⟨_,ak hI hM acY,?_⟩;cbv
                cases h
                first|exact Or.inl rfl|exact bB
               cbv
               refine ae h fun u89 acH h=>?_
               refine ae h fun l90 adl h=>?_
               apply Exists.intro;refine⟨?_,_,rfl,?_⟩
               ·cbv
                refine⟨?_,trivial⟩
                refine⟨?_,trivial⟩
                refine⟨_,bJ (enc:=(aW M r)) (x:=(⟨BL.kind,BL.name,BL.num,Bj⟩:aI)) hM ⟨rfl,rfl,rfl,(dg hM acH),trivial⟩ rfl,?_⟩;cbv
                refine⟨?_,trivial⟩
                refine⟨_,aw (enc:=(aW M r)) hI hM adl (fun _=>rfl) rfl (fun _=>rfl),?_⟩;cbv
                refine⟨?_,trivial⟩
                all_goals exact .inl rfl
               cbv
               refine letE h fun n91 acX h=>⟨_,ak hI hM acX,?_⟩;cbv
               cases h
               first|exact Or.inl rfl|exact bB
              clear hj
              cbv
              refine⟨_,bJ (enc:=ao) (x:=j80) hM (ah _) rfl,?_⟩;cbv
              refine ae h fun l92 adk h=>⟨_,aw (enc:=ao) hI hM adk (fun _=>rfl) rfl (fun _=>rfl),?_⟩;cbv
              exact bN (vo _ _ h)
            cbv
            refine ae h fun x96 acm h=>?_
            apply Exists.intro;refine⟨?_,_,rfl,?_⟩
            ·cbv
             refine⟨_,al hM acm rfl,?_⟩;cbv
             all_goals exact .inl rfl
            cbv
            refine⟨?_,trivial⟩
            refine⟨_,bJ (enc:=ao) (x:=x96) hM (ah _) rfl,?_⟩;cbv
            refine⟨?_,trivial⟩
            refine ae h fun l97 adi h=>⟨_,aw (enc:=ao) hI hM adi (fun _=>rfl) rfl (fun _=>rfl),?_⟩;cbv
            refine⟨?_,trivial⟩
            cases h
            first|exact Or.inl rfl|exact bB
          cbv
          refine ae h fun k98 SB h=>?_
          refine ae h fun x99 ack h=>?_
          refine ae h fun aaT RK h=>?_
          refine ae h fun ad6 Jr h=>?_
          refine ae h fun aaS RJ h=>?_
          refine ae h fun aaR RI h=>?_
          refine letE h fun Ta R9 h=>?_
          apply Exists.intro;refine⟨?_,_,rfl,?_⟩
          ·cbv
           (first|refine⟨_,⟨rfl,rfl,aK hI SB⟩,?_⟩|refine⟨_,aK hI SB,?_⟩)
           cbv
           refine⟨_,_,rfl,ba hM ack,rfl,?_⟩;cbv
           refine⟨_,al hM RK rfl,?_⟩;cbv
           (first|refine⟨_,⟨rfl,rfl,aK hI Jr⟩,?_⟩|refine⟨_,aK hI Jr,?_⟩)
           cbv
           refine⟨_,_,rfl,ba hM RJ,rfl,?_⟩;cbv
           refine⟨_,al hM RI rfl,?_⟩;cbv
           refine⟨_,ak hI hM R9,?_⟩;cbv
           all_goals exact .inl rfl
          cbv
          refine⟨_,rfl,?_⟩;cbv
          refine lp h (fun _=>[]) (fun _=>[]) fun Rm8 m8 D2 st h=>?_
          dsimp only[fN]at h
          cbv
          refine eS (iB hI (by decide)) ?_;cbv
          refine letE h fun HJ Dt h=>⟨_,ak hI hM Dt,?_⟩;cbv
          refine⟨_,gR (enc:=ao) (l:=[HJ,0,(I.wrap .i64 (I.sub (I.wrap .i64 (I.sub Ta yo)) 1))]) hM ⟨⟨(ah _),rfl⟩,⟨(ah _),rfl⟩,⟨(ah _),rfl⟩,trivial⟩,?_⟩;cbv
          refine ae h fun aaI Rp h=>⟨_,fun hp=>us hc (dx hI hM (ax Rp hp.1)),?_⟩;cbv
          refine si h (fun h=>?_) fun h=>?_
          ·as_aux_lemma=>
            cbv
            refine letE h fun Xe Jm h=>⟨_,ak hI hM Jm,?_⟩;cbv
            refine ae h fun JY Sx h=>⟨_,_,dF (enc:=ao) hI hM Sx (by decide) rfl,?_⟩;cbv
            refine letE h fun Pt Sw h=>?_
            refine letE h fun air R8 h=>⟨_,_,gr (enc:=ao) hI hM Sw R8 rfl (fun _=>rfl) (fun _=>rfl),?_⟩;cbv
            refine⟨_,ak hI hM Jm,?_⟩;cbv
            refine si h (fun h=>?_) fun h=>?_
            ·cbv
             refine ae h fun JX Dw h=>?_
             apply Exists.intro;refine⟨?_,_,rfl,?_⟩
             ·cbv
              refine⟨?_,trivial⟩
              refine⟨?_,trivial⟩
              refine⟨_,bJ (enc:=(aW M r)) (x:=(⟨fw.kind,fw.name,fw.num,[]⟩:aI)) hM ⟨rfl,rfl,rfl,(aH hM),trivial⟩ rfl,?_⟩;cbv
              refine⟨?_,trivial⟩
              refine⟨_,aw (enc:=(aW M r)) hI hM Dw (fun _=>rfl) rfl (fun _=>rfl),?_⟩;cbv
              refine⟨?_,trivial⟩
              all_goals exact .inl rfl
             cbv
             refine letE h fun S9 R7 h=>⟨_,ak hI hM R7,?_⟩;cbv
             refine⟨?_,trivial⟩
             refine⟨_,bJ (enc:=ao) (x:=(I.wrap .i64 (I.sub S9 1))) hM (ah _) rfl,?_⟩;cbv
             refine⟨?_,trivial⟩
             refine ae h fun adV Sv h=>⟨_,aw (enc:=ao) hI hM Sv (fun _=>rfl) rfl (fun _=>rfl),?_⟩;cbv
             refine⟨?_,trivial⟩
             cases h
             first|exact Or.inl rfl|exact bB
            cbv
            refine ae h fun ahm RN h=>?_
            refine ae h fun Xo Su h=>?_
            apply Exists.intro;refine⟨?_,_,rfl,?_⟩
            ·cbv
             refine⟨?_,trivial⟩
             refine⟨?_,trivial⟩
             refine⟨_,bJ (enc:=(aW M r)) (x:=(⟨fw.kind,fw.name,fw.num,Pt⟩:aI)) hM ⟨rfl,rfl,rfl,(dg hM RN),trivial⟩ rfl,?_⟩;cbv
             refine⟨?_,trivial⟩
             refine⟨_,aw (enc:=(aW M r)) hI hM Su (fun _=>rfl) rfl (fun _=>rfl),?_⟩;cbv
             refine⟨?_,trivial⟩
             all_goals exact .inl rfl
            cbv
            refine letE h fun S8 R6 h=>⟨_,ak hI hM R6,?_⟩;cbv
            refine⟨?_,trivial⟩
            refine⟨_,bJ (enc:=ao) (x:=(I.wrap .i64 (I.sub S8 1))) hM (ah _) rfl,?_⟩;cbv
            refine⟨?_,trivial⟩
            refine ae h fun adU Ss h=>⟨_,aw (enc:=ao) hI hM Ss (fun _=>rfl) rfl (fun _=>rfl),?_⟩;cbv
            refine⟨?_,trivial⟩
            cases h
            first|exact Or.inl rfl|exact bB
          cbv
          refine⟨_,rfl,?_⟩;cbv
          refine lp h (fun _=>[]) (fun _=>[]) fun Rm9 m9 TT st h=>?_
          dsimp only[jX]at h
          cbv
          refine eS (iB hI (by decide)) ?_;cbv
          cases h
         clear hj
         cbv
         exact bN (ox _ _ h)
       cbv
       refine ae h fun aaM ahP h=>?_
       apply Exists.intro;refine⟨?_,_,rfl,?_⟩
       ·cbv
        refine⟨_,al hM ahP rfl,?_⟩;cbv
        refine⟨?_,trivial⟩
        all_goals exact .inl rfl
       cbv
       refine ae h fun aiP ZE h=>?_
       (first|refine⟨_,⟨rfl,rfl,aK hI ZE⟩,?_⟩|refine⟨_,aK hI ZE,?_⟩)
       cbv
       refine ae h fun ahh ahO h=>⟨_,_,rfl,ba hM ahO,rfl,?_⟩;cbv
       refine ae h fun ad3 ah4 h=>⟨_,bV hI hM ah4,?_⟩;cbv
       refine ae h fun Vt RC h=>?_
       refine ae h fun aiH ahX h=>?_
       refine ae h fun Pp FQ h=>?_
       apply Exists.intro;refine⟨?_,_,rfl,?_⟩
       ·cbv
        refine⟨_,_,_,⟨rfl,ba (enc:=(aq M r)) hM RC,rfl,rfl⟩,?_⟩;cbv
        refine⟨?_,trivial⟩
        refine⟨_,bJ (enc:=(az M r)) (x:=(⟨dY.head,dY.kids,oQ,aaM⟩:ag)) hM (ah _) rfl,?_⟩;cbv
        refine⟨?_,trivial⟩
        refine⟨_,aw (enc:=(az M r)) hI hM ahX (fun _=>rfl) rfl (fun _=>rfl),?_⟩;cbv
        refine⟨?_,trivial⟩
        (first|refine⟨_,qQ (enc:=(aq M r)) hI hM RC FQ (show 2<3 from by decide) rfl,?_⟩|refine⟨rfl,rfl,rfl,_,qQ (enc:=(aq M r)) hI hM RC FQ (show 2<3 from by decide) rfl,?_⟩)
        cbv
        all_goals exact .inl rfl
       cbv
       try(refine⟨rfl,?_⟩;cbv)
       refine lK hI ?_;cbv
       exact bN (pW _ _ h)
     cbv
     exact bN (jE _ _ h)
   cbv
   try(refine⟨rfl,?_⟩;cbv)
   refine ae h fun aml ahT h=>?_
   obtain rfl:=Option.some.inj h
   cbv
   all_goals(repeat' apply And.intro)
   all_goals first|trivial|rfl|exact(aH hM)|exact(dg hM ahT)
 cbv
 cases h
end Ab
