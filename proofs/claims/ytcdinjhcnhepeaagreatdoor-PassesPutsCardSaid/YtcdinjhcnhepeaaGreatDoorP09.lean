/- PassesPuts holds of every core (no condition): a part of the proof: an abstract interpreter of the code that is proved sound, models of the functions, and laws of these models. -/
import Derived.Test.YtcdinjhcnhepeaaGreatDoorP02
import Derived.Test.YtcdinjhcnhepeaaGreatDoorP03
import Derived.Test.YtcdinjhcnhepeaaGreatDoorP04
set_option linter.unusedVariables false
set_option linter.unusedSimpArgs false
namespace Ab
open Go Go.Proofs.Tryz
set_option maxHeartbeats 100000000
set_option maxRecDepth 100000
variable{I:Pr}(hI:I=an){M:Md}(hM:M= .an){n nx r s p q u rl:Nat}{g:Nat→Option Ob}
 include hI hM
theorem vA{a0:ai}{aV:ai}{v:ai}(h:lX I M n a0 aV=some v):
  bQ 70 [(.agg (aX M p a0)),(.fn (.func 73) [(.aP q (aX M p aV) 0)])] (.agg (aX M r v)) g nx:=by
 refine yc func70 c70 r QV Ul [5] 10 ntmps70 [.cell 4 24] hI (bh.cons (pX r) (bh.cons (Ko r) (bh.cons (Kp r) (bh.cons (tg r) (bh.cons (XS r) (bh.cons (th r) (bh.cons (wx r) (sL PP fQ)))))))) 8 fun call hc=>?_
 cbv
 refine letE h fun l1 L8 h=>⟨_,⟨rfl,iz (enc:=ao) hI hM L8 rfl⟩,?_⟩;cbv
 refine letE h fun n2 mP h=>⟨_,ak hI hM mP,?_⟩;cbv
 refine iu n (fun jJ aQ=>?_);cbv
 refine si h (fun h=>?_) fun h=>?_
 ·as_aux_lemma=>
   cbv
   refine ae h fun x3 jt h=>⟨_,al hM jt rfl,?_⟩;cbv
   refine⟨_,Ou (by rfl),?_⟩;cbv
   refine ae h fun l4 KN h=>⟨pM hI KN,_,_,xF (enc:=(aq M r)) hI hM KN (by have e0:=aH (enc:=(az M r)) hM;simp only[aq,vi,vs,vb,b8,dS,e0]),?_⟩;cbv
   refine aQ _ (lpD h [50009] (fun(l5,z6)=>[(19,(vi z6)),(20,.any)]) (fun(l5,z6)=>[(50007,.box [(.iq (.s 50031) (M.ln l5))]),(50031,.ow (.sl 3) none (M.map (aq M r) l5))]) fun AO m2 cS st h=>?_)
   obtain⟨l5,z6⟩:=st
   dsimp only[cF]at h
   cbv
   refine si h (fun h=>?_) fun h=>?_
   ·cbv
    refine ae h fun x7 Bb h=>⟨_,al hM Bb rfl,?_⟩;cbv
    refine⟨_,Ou (by rfl),?_⟩;cbv
    refine ae h fun l8 Sd h=>?_
    (refine⟨_,_,DB (enc:=(aq M r)) hI hM Sd ?_,?_⟩;next=>have e0:=aH (enc:=(az M r)) hM;simp only[aq,vi,vs,vb,b8,dS,e0])
    cbv
    exact bN (cS _ _ h)
   cbv
   intro l
   cbv
   refine letE h fun ub xE h=>⟨_,ak hI hM xE,?_⟩;cbv
   refine lp h (fun(iJ,wI,eg)=>[(10,(vi eg))]) (fun(iJ,wI,eg)=>[(5,.arr 1 (M.map ao iJ)),(50031,.ow (.sl 3) none (M.map (aq M r) wI))]) fun M6 m3 jE st h=>?_
   obtain⟨iJ,wI,eg⟩:=st
   dsimp only[dp]at h
   cbv
   refine si h (fun h=>?_) fun h=>?_
   ·as_aux_lemma=>
     cbv
     refine ae h fun ym BO h=>⟨_,al hM BO rfl,?_⟩;cbv
     refine letE h fun DJ Ds h=>⟨_,ak hI hM Ds,?_⟩;cbv
     refine lp h (fun(tT,qF,ey)=>[(18,(vi ey))]) (fun(tT,qF,ey)=>[(5,.arr 1 (M.map ao tT)),(50031,.ow (.sl 3) none (M.map (aq M r) qF))]) fun Qt m4 pW st h=>?_
     obtain⟨tT,qF,ey⟩:=st
     dsimp only[dm]at h
     cbv
     refine si h (fun h=>?_) fun h=>?_
     ·as_aux_lemma=>
       cbv
       refine ae h fun dY Dp h=>⟨_,al hM Dp rfl,?_⟩;cbv
       try(refine⟨⟨rfl,rfl,rfl⟩,?_⟩;cbv)
       refine letE h fun u9 Hy h=>⟨_,⟨rfl,iz (enc:=ao) hI hM Hy rfl⟩,?_⟩;cbv
       refine ae h fun Vv yK h=>?_
       (first|refine⟨_,⟨aR hI hM yK,qP (enc:=ao) (l:=[eg,ey]) hI hM rfl⟩,?_⟩|refine⟨_,⟨rfl,aR hI hM yK,rfl,rfl,qP (enc:=ao) (l:=[eg,ey]) hI hM rfl⟩,?_⟩)
       cbv
       try(refine⟨rfl,?_⟩;cbv)
       refine ae h fun OL qi h=>?_
       (first|refine⟨⟨rfl,aR hI hM qi,rfl⟩,?_⟩|refine⟨⟨aR hI hM qi,trivial⟩,?_⟩|refine⟨aR hI hM qi,?_⟩)
       cbv
       try(refine⟨⟨by decide,by decide⟩,?_⟩;cbv)
       refine ae h fun u24 xD h=>?_
       (first|refine⟨⟨rfl,aR hI hM xD,rfl⟩,?_⟩|refine⟨⟨aR hI hM xD,trivial⟩,?_⟩|refine⟨aR hI hM xD,?_⟩)
       cbv
       refine ae h fun u25 EV h=>?_
       (first|refine⟨⟨rfl,rfl,rfl,aR hI hM EV,rfl,(by have hq:=dI (enc:=ao) hM (fun _=>rfl) ([eg,ey]);rw[eb.eq_def]at hq;exact hq)⟩,?_⟩|refine⟨⟨aR hI hM EV,(by have hq:=dI (enc:=ao) hM (fun _=>rfl) ([eg,ey]);rw[eb.eq_def]at hq;exact hq)⟩,?_⟩)
       cbv
       apply Exists.intro;refine⟨?_,_,rfl,?_⟩
       ·cbv
        refine⟨?_,?_⟩
        ·refine⟨?_,trivial⟩
         refine⟨?_,trivial⟩
         all_goals exact .inl rfl
        refine⟨?_,trivial⟩
        refine⟨?_,trivial⟩
        all_goals exact .inl rfl
       cbv
       refine letE h fun Xa ade h=>⟨_,ak hI hM ade,?_⟩;cbv
       refine lp h (fun(oQ,sV,yo)=>[(56,(vi yo))]) (fun(oQ,sV,yo)=>[(12915008,.box [(vs dY.head),(vi dY.kids),(.gs r (.c 12915008 2) (M.map (aW M r) oQ)),(vi 0),(.gs r (.c 12915008 4) (M.map ao sV)),(.fn (.func 73) [(.aP q [(.sl p (M.map (aq M p) aV.blocks))] 0)])])]) fun Qs m5 ox st h=>?_
       obtain⟨oQ,sV,yo⟩:=st
       dsimp only[cE]at h
       cbv
       refine si h (fun h=>?_) fun h=>?_
       ·as_aux_lemma=>
         cbv
         refine ae h fun fw Ry h=>⟨_,al hM Ry rfl,?_⟩;cbv
         refine jU h fun Ts j32 hj h=>?_
         dsimp only at h
         refine aT none [(13,.any),(14,.any)] [(12915008,.box [(vs dY.head),(vi dY.kids),(.gs r (.c 12915008 2) (M.map (aW M r) Ts)),(vi 0),(.gs r (.c 12915008 4) (M.map ao j32)),(.fn (.func 73) [(.aP q [(.sl p (M.map (aq M p) aV.blocks))] 0)])])] g nx ?_ ?_
         ·replace h:=hj
          cbv
          refine⟨?_,?_⟩
          ·refine⟨?_,trivial⟩
           refine ae h fun wB Di h=>⟨fun _=>rfl,(.sl r (M.map ao wB)),g,nx,fun ρ=>by cbv;exact us hc (kG hI hM Di),?_⟩;cbv
           refine ae h fun y34 Ly h=>⟨_,_,_,us hc (dj hI hM Ly),?_⟩;cbv
           refine si h (fun h=>?_) fun h=>?_
           ·as_aux_lemma=>
             cbv
             refine Ot h fun J0 Py Fa s7 BV hj h=>?_
             dsimp only at h
             refine aT none [(11,(vb J0))] [(12916010,.box [(vs Py),(vi Fa),(.sl p (M.map (aW M p) s7)),(vi BV)])] g nx ?_ ?_
             ·replace h:=hj
              cbv
              refine⟨?_,trivial⟩
              refine ae h fun yq Ae h=>⟨_,_,_,us hc (kM hI hM Ae),?_⟩;cbv
              refine ae h fun Lb Hp h=>⟨_,al hM Hp rfl,?_⟩;cbv
              refine si h (fun h=>?_) fun h=>?_
              ·cbv
               refine⟨?_,trivial⟩
               cases h
               first|exact Or.inl rfl|exact bB
              cbv
              refine ae h fun x42 acB h=>?_
              refine ae h fun x43 Rw h=>?_
              refine ae h fun IV Ho h=>?_
              apply Exists.intro;refine⟨?_,_,rfl,?_⟩
              ·cbv
               refine⟨_,al hM acB rfl,?_⟩;cbv
               refine⟨_,al hM Rw rfl,?_⟩;cbv
               refine⟨_,al hM Ho rfl,?_⟩;cbv
               refine⟨?_,trivial⟩
               refine⟨?_,trivial⟩
               all_goals exact .inl rfl
              cbv
              refine letE h fun JH Ah h=>⟨_,ak hI hM Ah,?_⟩;cbv
              refine lp h (fun OD=>[(42,(vi OD))]) (fun OD=>[]) fun Vi m6 rp OD h=>?_
              dsimp only[cg]at h
              cbv
              refine si h (fun h=>?_) fun h=>?_
              ·cbv
               refine ae h fun La Hn h=>⟨_,al hM Hn rfl,?_⟩;cbv
               refine letE h fun KP Dr h=>⟨_,ak hI hM Dr,?_⟩;cbv
               refine si h (fun h=>?_) fun h=>?_
               ·cbv
                refine ae h fun y49 Rg h=>?_
                apply Exists.intro;refine⟨?_,_,rfl,?_⟩
                ·cbv
                 refine⟨?_,trivial⟩
                 refine⟨_,_,_,us hc (oF hI hM Rg),?_⟩;cbv
                 refine⟨?_,trivial⟩
                 all_goals exact .inl rfl
                cbv
                refine⟨?_,trivial⟩
                cases h
                first|exact Or.inl rfl|exact bB
               cbv
               exact bN (rp _ _ h)
              cbv
              refine⟨?_,trivial⟩
              cases h
              first|exact Or.inl rfl|exact bB
             clear hj
             cbv
             refine ae h fun Tp Hz h=>?_
             refine ae h fun UZ Hm h=>?_
             refine ae h fun qb lT h=>?_
             refine ae h fun k60 SC h=>?_
             refine ae h fun x61 acx h=>?_
             refine ae h fun x62 acw h=>?_
             refine letE h fun Mi Dq h=>?_
             apply Exists.intro;refine⟨?_,_,rfl,?_⟩
             ·cbv
              (first|refine⟨_,⟨rfl,rfl,aK hI Hz⟩,?_⟩|refine⟨_,aK hI Hz,?_⟩)
              cbv
              refine⟨_,_,rfl,ba hM Hm,rfl,?_⟩;cbv
              refine⟨_,al hM lT rfl,?_⟩;cbv
              (first|refine⟨_,⟨rfl,rfl,aK hI SC⟩,?_⟩|refine⟨_,aK hI SC,?_⟩)
              cbv
              refine⟨_,_,rfl,ba hM acx,rfl,?_⟩;cbv
              refine⟨_,al hM acw rfl,?_⟩;cbv
              refine⟨_,ak hI hM Dq,?_⟩;cbv
              all_goals exact .inl rfl
             cbv
             refine letE h fun n64 ac5 h=>⟨_,ak hI hM ac5,?_⟩;cbv
             refine lp h (fun(P6,P5)=>[(13,(vi P6)),(56,(vi P5))]) (fun _=>[]) fun Rm7 m7 vo st h=>?_
             obtain⟨P6,P5⟩:=st
             dsimp only[fM]at h
             cbv
             refine si h (fun h=>?_) fun h=>?_
             ·cbv
              refine ae h fun x67 acv h=>⟨_,al hM acv rfl,?_⟩;cbv
              refine si h (fun h=>?_) fun h=>?_
              ·cbv
               exact bN (vo _ _ h)
              cbv
              exact bN (vo _ _ h)
             cbv
             refine letE h fun n70 ac2 h=>⟨_,ak hI hM ac2,?_⟩;cbv
             refine⟨_,gR (enc:=ao) (l:=[n70,P6,(I.wrap .i64 (I.sub (I.wrap .i64 (I.sub Mi yo)) 1))]) hM ⟨⟨(ah _),rfl⟩,⟨(ah _),rfl⟩,⟨(ah _),rfl⟩,trivial⟩,?_⟩;cbv
             refine ae h fun y71 aca h=>⟨_,fun hp=>us hc (dx hI hM (ax aca hp.1)),?_⟩;cbv
             refine si h (fun h=>?_) fun h=>?_
             ·as_aux_lemma=>
               cbv
               refine letE h fun ZK Jj h=>⟨_,ak hI hM Jj,?_⟩;cbv
               refine ae h fun Td Sf h=>⟨_,_,dF (enc:=ao) hI hM Sf (by decide) rfl,?_⟩;cbv
               refine letE h fun Xk Pa h=>?_
               refine letE h fun n75 ac1 h=>⟨_,_,gr (enc:=ao) hI hM Pa ac1 rfl (fun _=>rfl) (fun _=>rfl),?_⟩;cbv
               refine⟨_,ak hI hM Jj,?_⟩;cbv
               refine si h (fun h=>?_) fun h=>?_
               ·cbv
                refine ae h fun Xi Se h=>?_
                apply Exists.intro;refine⟨?_,_,rfl,?_⟩
                ·cbv
                 refine⟨?_,trivial⟩
                 refine⟨?_,trivial⟩
                 refine⟨_,bJ (enc:=(aW M r)) (x:=(⟨fw.kind,fw.name,fw.num,[]⟩:aI)) hM ⟨rfl,rfl,rfl,(aH hM),trivial⟩ rfl,?_⟩;cbv
                 refine⟨?_,trivial⟩
                 refine⟨_,aw (enc:=(aW M r)) hI hM Se (fun _=>rfl) rfl (fun _=>rfl),?_⟩;cbv
                 refine⟨?_,trivial⟩
                 all_goals exact .inl rfl
                cbv
                refine letE h fun U4 RQ h=>⟨_,ak hI hM RQ,?_⟩;cbv
                refine⟨?_,trivial⟩
                refine⟨_,bJ (enc:=ao) (x:=(I.wrap .i64 (I.sub U4 1))) hM (ah _) rfl,?_⟩;cbv
                refine⟨?_,trivial⟩
                refine ae h fun HL Jn h=>⟨_,aw (enc:=ao) hI hM Jn (fun _=>rfl) rfl (fun _=>rfl),?_⟩;cbv
                refine⟨?_,trivial⟩
                cases h
                first|exact Or.inl rfl|exact bB
               cbv
               refine ae h fun u79 acI h=>?_
               refine ae h fun l80 adq h=>?_
               apply Exists.intro;refine⟨?_,_,rfl,?_⟩
               ·cbv
                refine⟨?_,trivial⟩
                refine⟨?_,trivial⟩
                refine⟨_,bJ (enc:=(aW M r)) (x:=(⟨fw.kind,fw.name,fw.num,Xk⟩:aI)) hM ⟨rfl,rfl,rfl,(dg hM acI),trivial⟩ rfl,?_⟩;cbv
                refine⟨?_,trivial⟩
                refine⟨_,aw (enc:=(aW M r)) hI hM adq (fun _=>rfl) rfl (fun _=>rfl),?_⟩;cbv
                refine⟨?_,trivial⟩
                all_goals exact .inl rfl
               cbv
               refine letE h fun n81 ac0 h=>⟨_,ak hI hM ac0,?_⟩;cbv
               refine⟨?_,trivial⟩
               refine⟨_,bJ (enc:=ao) (x:=(I.wrap .i64 (I.sub n81 1))) hM (ah _) rfl,?_⟩;cbv
               refine⟨?_,trivial⟩
               refine ae h fun l82 adp h=>⟨_,aw (enc:=ao) hI hM adp (fun _=>rfl) rfl (fun _=>rfl),?_⟩;cbv
               refine⟨?_,trivial⟩
               cases h
               first|exact Or.inl rfl|exact bB
             cbv
             refine letE h fun U3 Hr h=>⟨_,ak hI hM Hr,?_⟩;cbv
             refine lp h (fun(zQ,Bj,II)=>[(90,(vi II))]) (fun(zQ,Bj,II)=>[(12915008,.box [(vs dY.head),(vi dY.kids),(.gs r (.c 12915008 2) (M.map (aW M r) zQ)),(vi 0),(.gs r (.c 12915008 4) (M.map ao sV)),(.fn (.func 73) [(.aP q [(.sl p (M.map (aq M p) aV.blocks))] 0)])]),(12916086,.box [(vs ⟨#[]⟩),(vi 0),(.v fC),(vi 0),(.gs r (.c 12916086 4) (M.map ao Bj)),(.v .nilFunc)])]) fun Rm8 m8 D2 st h=>?_
             obtain⟨zQ,Bj,II⟩:=st
             dsimp only[fL]at h
             cbv
             refine si h (fun h=>?_) fun h=>?_
             ·as_aux_lemma=>
               cbv
               refine ae h fun BK acq h=>⟨_,al hM acq rfl,?_⟩;cbv
               refine si h (fun h=>?_) fun h=>?_
               ·cbv
                refine ae h fun UX Rq h=>⟨_,al hM Rq rfl,?_⟩;cbv
                refine⟨_,bJ (enc:=ao) (x:=UX) hM (ah _) rfl,?_⟩;cbv
                refine ae h fun l89 adm h=>⟨_,aw (enc:=ao) hI hM adm (fun _=>rfl) rfl (fun _=>rfl),?_⟩;cbv
                exact bN (D2 _ _ h)
               cbv
               refine si h (fun h=>?_) fun h=>?_
               ·cbv
                refine ae h fun x90 acp h=>?_
                refine ae h fun x91 aco h=>?_
                refine ae h fun x92 acn h=>?_
                apply Exists.intro;refine⟨?_,_,rfl,?_⟩
                ·cbv
                 refine⟨_,al hM acp rfl,?_⟩;cbv
                 refine⟨_,al hM aco rfl,?_⟩;cbv
                 refine⟨_,al hM acn rfl,?_⟩;cbv
                 all_goals exact .inl rfl
                cbv
                refine⟨_,bJ (enc:=ao) (x:=x92) hM (ah _) rfl,?_⟩;cbv
                refine ae h fun l93 adj h=>⟨_,aw (enc:=ao) hI hM adj (fun _=>rfl) rfl (fun _=>rfl),?_⟩;cbv
                exact bN (D2 _ _ h)
               cbv
               refine jU h fun j94 j95 hj h=>?_
               dsimp only at h
               refine aT none [(19,(vi j94)),(18,.any)] [(12915008,.box [(vs dY.head),(vi dY.kids),(.gs r (.c 12915008 2) (M.map (aW M r) j95)),(vi 0),(.gs r (.c 12915008 4) (M.map ao sV)),(.fn (.func 73) [(.aP q [(.sl p (M.map (aq M p) aV.blocks))] 0)])])] g nx ?_ ?_
               ·replace h:=hj
                cbv
                refine⟨?_,trivial⟩
                refine ae h fun y96 ab8 h=>⟨fun _=>rfl,(.sl r (M.map ao y96)),g,nx,fun ρ=>by cbv;exact us hc (dV hI hM ab8),?_⟩;cbv
                refine⟨?_,trivial⟩
                refine letE h fun n97 RP h=>⟨_,ak hI hM RP,?_⟩;cbv
                refine ae h fun l98 adh h=>⟨_,_,dF (enc:=ao) hI hM adh (by decide) rfl,?_⟩;cbv
                refine letE h fun l99 adg h=>?_
                refine letE h fun ais Sb h=>⟨_,_,gr (enc:=ao) hI hM adg Sb rfl (fun _=>rfl) (fun _=>rfl),?_⟩;cbv
                refine⟨_,ak hI hM RP,?_⟩;cbv
                refine si h (fun h=>?_) fun h=>?_
                ·cbv
                 refine ae h fun Xq SA h=>?_
                 apply Exists.intro;refine⟨?_,_,rfl,?_⟩
                 ·cbv
                  refine⟨?_,trivial⟩
                  refine⟨?_,trivial⟩
                  refine⟨_,bJ (enc:=(aW M r)) (x:=(⟨BK.kind,BK.name,BK.num,[]⟩:aI)) hM ⟨rfl,rfl,rfl,(aH hM),trivial⟩ rfl,?_⟩;cbv
                  refine⟨?_,trivial⟩
                  refine⟨_,aw (enc:=(aW M r)) hI hM SA (fun _=>rfl) rfl (fun _=>rfl),?_⟩;cbv
                  refine⟨?_,trivial⟩
                  all_goals exact .inl rfl
                 cbv
                 refine letE h fun adO Sa h=>⟨_,ak hI hM Sa,?_⟩;cbv
                 cases h
                 first|exact Or.inl rfl|exact bB
                cbv
                refine ae h fun ahn RO h=>?_
                refine ae h fun Xp Sz h=>?_
                apply Exists.intro;refine⟨?_,_,rfl,?_⟩
                ·cbv
                 refine⟨?_,trivial⟩
                 refine⟨?_,trivial⟩
                 refine⟨_,bJ (enc:=(aW M r)) (x:=(⟨BK.kind,BK.name,BK.num,l99⟩:aI)) hM ⟨rfl,rfl,rfl,(dg hM RO),trivial⟩ rfl,?_⟩;cbv
                 refine⟨?_,trivial⟩
                 refine⟨_,aw (enc:=(aW M r)) hI hM Sz (fun _=>rfl) rfl (fun _=>rfl),?_⟩;cbv
                 refine⟨?_,trivial⟩
                 all_goals exact .inl rfl
                cbv
                refine letE h fun HJ Dt h=>⟨_,ak hI hM Dt,?_⟩;cbv
                cases h
                first|exact Or.inl rfl|exact bB
               clear hj
               cbv
               refine⟨_,bJ (enc:=ao) (x:=j94) hM (ah _) rfl,?_⟩;cbv
               refine ae h fun adW Sy h=>⟨_,aw (enc:=ao) hI hM Sy (fun _=>rfl) rfl (fun _=>rfl),?_⟩;cbv
               exact bN (D2 _ _ h)
             cbv
             refine ae h fun QH RH h=>?_
             apply Exists.intro;refine⟨?_,_,rfl,?_⟩
             ·cbv
              refine⟨_,al hM RH rfl,?_⟩;cbv
              all_goals exact .inl rfl
             cbv
             refine⟨?_,trivial⟩
             refine⟨_,bJ (enc:=ao) (x:=QH) hM (ah _) rfl,?_⟩;cbv
             refine⟨?_,trivial⟩
             refine ae h fun JX Dw h=>⟨_,aw (enc:=ao) hI hM Dw (fun _=>rfl) rfl (fun _=>rfl),?_⟩;cbv
             refine⟨?_,trivial⟩
             cases h
             first|exact Or.inl rfl|exact bB
           cbv
           refine ae h fun ad5 Jq h=>?_
           refine ae h fun aaQ RG h=>?_
           refine ae h fun aaP RF h=>?_
           refine ae h fun ad4 Jp h=>?_
           refine ae h fun aaO RE h=>?_
           refine ae h fun aaN RD h=>?_
           refine letE h fun S7 R5 h=>?_
           apply Exists.intro;refine⟨?_,_,rfl,?_⟩
           ·cbv
            (first|refine⟨_,⟨rfl,rfl,aK hI Jq⟩,?_⟩|refine⟨_,aK hI Jq,?_⟩)
            cbv
            refine⟨_,_,rfl,ba hM RG,rfl,?_⟩;cbv
            refine⟨_,al hM RF rfl,?_⟩;cbv
            (first|refine⟨_,⟨rfl,rfl,aK hI Jp⟩,?_⟩|refine⟨_,aK hI Jp,?_⟩)
            cbv
            refine⟨_,_,rfl,ba hM RE,rfl,?_⟩;cbv
            refine⟨_,al hM RD rfl,?_⟩;cbv
            refine⟨_,ak hI hM R5,?_⟩;cbv
            all_goals exact .inl rfl
           cbv
           refine⟨_,rfl,?_⟩;cbv
           refine lp h (fun _=>[]) (fun _=>[]) fun Rm9 m9 TT st h=>?_
           dsimp only[fK]at h
           cbv
           refine eS (iB hI (by decide)) ?_;cbv
           refine letE h fun S6 R4 h=>⟨_,ak hI hM R4,?_⟩;cbv
           refine⟨_,gR (enc:=ao) (l:=[S6,0,(I.wrap .i64 (I.sub (I.wrap .i64 (I.sub S7 yo)) 1))]) hM ⟨⟨(ah _),rfl⟩,⟨(ah _),rfl⟩,⟨(ah _),rfl⟩,trivial⟩,?_⟩;cbv
           refine ae h fun aaH Ro h=>⟨_,fun hp=>us hc (dx hI hM (ax Ro hp.1)),?_⟩;cbv
           refine si h (fun h=>?_) fun h=>?_
           ·as_aux_lemma=>
             cbv
             refine letE h fun Xd Jl h=>⟨_,ak hI hM Jl,?_⟩;cbv
             refine ae h fun Ps Sr h=>⟨_,_,dF (enc:=ao) hI hM Sr (by decide) rfl,?_⟩;cbv
             refine letE h fun Pq Sq h=>?_
             refine letE h fun aiq R0 h=>⟨_,_,gr (enc:=ao) hI hM Sq R0 rfl (fun _=>rfl) (fun _=>rfl),?_⟩;cbv
             refine⟨_,ak hI hM Jl,?_⟩;cbv
             refine si h (fun h=>?_) fun h=>?_
             ·cbv
              refine ae h fun Xn Sp h=>?_
              apply Exists.intro;refine⟨?_,_,rfl,?_⟩
              ·cbv
               refine⟨?_,trivial⟩
               refine⟨?_,trivial⟩
               refine⟨_,bJ (enc:=(aW M r)) (x:=(⟨fw.kind,fw.name,fw.num,[]⟩:aI)) hM ⟨rfl,rfl,rfl,(aH hM),trivial⟩ rfl,?_⟩;cbv
               refine⟨?_,trivial⟩
               refine⟨_,aw (enc:=(aW M r)) hI hM Sp (fun _=>rfl) rfl (fun _=>rfl),?_⟩;cbv
               refine⟨?_,trivial⟩
               all_goals exact .inl rfl
              cbv
              refine letE h fun S5 RZ h=>⟨_,ak hI hM RZ,?_⟩;cbv
              refine⟨?_,trivial⟩
              refine⟨_,bJ (enc:=ao) (x:=(I.wrap .i64 (I.sub S5 1))) hM (ah _) rfl,?_⟩;cbv
              refine⟨?_,trivial⟩
              refine ae h fun Pp FQ h=>⟨_,aw (enc:=ao) hI hM FQ (fun _=>rfl) rfl (fun _=>rfl),?_⟩;cbv
              refine⟨?_,trivial⟩
              cases h
              first|exact Or.inl rfl|exact bB
             cbv
             refine ae h fun ahl RM h=>?_
             refine ae h fun Po So h=>?_
             apply Exists.intro;refine⟨?_,_,rfl,?_⟩
             ·cbv
              refine⟨?_,trivial⟩
              refine⟨?_,trivial⟩
              refine⟨_,bJ (enc:=(aW M r)) (x:=(⟨fw.kind,fw.name,fw.num,Pq⟩:aI)) hM ⟨rfl,rfl,rfl,(dg hM RM),trivial⟩ rfl,?_⟩;cbv
              refine⟨?_,trivial⟩
              refine⟨_,aw (enc:=(aW M r)) hI hM So (fun _=>rfl) rfl (fun _=>rfl),?_⟩;cbv
              refine⟨?_,trivial⟩
              all_goals exact .inl rfl
             cbv
             refine letE h fun S4 RY h=>⟨_,ak hI hM RY,?_⟩;cbv
             refine⟨?_,trivial⟩
             refine⟨_,bJ (enc:=ao) (x:=(I.wrap .i64 (I.sub S4 1))) hM (ah _) rfl,?_⟩;cbv
             refine⟨?_,trivial⟩
             refine ae h fun Xm Sn h=>⟨_,aw (enc:=ao) hI hM Sn (fun _=>rfl) rfl (fun _=>rfl),?_⟩;cbv
             refine⟨?_,trivial⟩
             cases h
             first|exact Or.inl rfl|exact bB
           cbv
           refine⟨_,rfl,?_⟩;cbv
           refine lp h (fun _=>[]) (fun _=>[]) fun akM m10 TU st h=>?_
           dsimp only[je]at h
           cbv
           refine eS (iB hI (by decide)) ?_;cbv
           cases h
          refine⟨?_,trivial⟩
          refine ae h fun wB Di h=>⟨fun _=>rfl,(.sl r (M.map ao wB)),g,nx,fun ρ=>by cbv;exact us hc (kG hI hM Di),?_⟩;cbv
          refine ae h fun y34 Ly h=>⟨_,_,_,us hc (dj hI hM Ly),?_⟩;cbv
          refine si h (fun h=>?_) fun h=>?_
          ·as_aux_lemma=>
            cbv
            refine Ot h fun J0 Py Fa s7 BV hj h=>?_
            dsimp only at h
            refine aT none [(11,(vb J0))] [(12916010,.box [(vs Py),(vi Fa),(.sl p (M.map (aW M p) s7)),(vi BV)])] g nx ?_ ?_
            ·replace h:=hj
             cbv
             refine⟨?_,trivial⟩
             refine ae h fun yq Ae h=>⟨_,_,_,us hc (kM hI hM Ae),?_⟩;cbv
             refine ae h fun Lb Hp h=>⟨_,al hM Hp rfl,?_⟩;cbv
             refine si h (fun h=>?_) fun h=>?_
             ·cbv
              refine⟨?_,trivial⟩
              cases h
              first|exact Or.inl rfl|exact bB
             cbv
             refine ae h fun x42 acB h=>?_
             refine ae h fun x43 Rw h=>?_
             refine ae h fun IV Ho h=>?_
             apply Exists.intro;refine⟨?_,_,rfl,?_⟩
             ·cbv
              refine⟨_,al hM acB rfl,?_⟩;cbv
              refine⟨_,al hM Rw rfl,?_⟩;cbv
              refine⟨_,al hM Ho rfl,?_⟩;cbv
              refine⟨?_,trivial⟩
              refine⟨?_,trivial⟩
              all_goals exact .inl rfl
             cbv
             refine letE h fun JH Ah h=>⟨_,ak hI hM Ah,?_⟩;cbv
             refine lp h (fun OD=>[(42,(vi OD))]) (fun OD=>[]) fun Vi m6 rp OD h=>?_
             dsimp only[cg]at h
             cbv
             refine si h (fun h=>?_) fun h=>?_
             ·cbv
              refine ae h fun La Hn h=>⟨_,al hM Hn rfl,?_⟩;cbv
              refine letE h fun KP Dr h=>⟨_,ak hI hM Dr,?_⟩;cbv
              refine si h (fun h=>?_) fun h=>?_
              ·cbv
               refine ae h fun y49 Rg h=>?_
               apply Exists.intro;refine⟨?_,_,rfl,?_⟩
               ·cbv
                refine⟨?_,trivial⟩
                refine⟨_,_,_,us hc (oF hI hM Rg),?_⟩;cbv
                refine⟨?_,trivial⟩
                all_goals exact .inl rfl
               cbv
               refine⟨?_,trivial⟩
               cases h
               first|exact Or.inl rfl|exact bB
              cbv
              exact bN (rp _ _ h)
             cbv
             refine⟨?_,trivial⟩
             cases h
             first|exact Or.inl rfl|exact bB
            clear hj
            cbv
            refine ae h fun Tp Hz h=>?_
            refine ae h fun UZ Hm h=>?_
            refine ae h fun qb lT h=>?_
            refine ae h fun k60 SC h=>?_
            refine ae h fun x61 acx h=>?_
            refine ae h fun x62 acw h=>?_
            refine letE h fun Mi Dq h=>?_
            apply Exists.intro;refine⟨?_,_,rfl,?_⟩
            ·cbv
             (first|refine⟨_,⟨rfl,rfl,aK hI Hz⟩,?_⟩|refine⟨_,aK hI Hz,?_⟩)
             cbv
             refine⟨_,_,rfl,ba hM Hm,rfl,?_⟩;cbv
             refine⟨_,al hM lT rfl,?_⟩;cbv
             (first|refine⟨_,⟨rfl,rfl,aK hI SC⟩,?_⟩|refine⟨_,aK hI SC,?_⟩)
             cbv
             refine⟨_,_,rfl,ba hM acx,rfl,?_⟩;cbv
             refine⟨_,al hM acw rfl,?_⟩;cbv
             refine⟨_,ak hI hM Dq,?_⟩;cbv
             all_goals exact .inl rfl
            cbv
            refine letE h fun n64 ac5 h=>⟨_,ak hI hM ac5,?_⟩;cbv
            refine lp h (fun(P6,P5)=>[(13,(vi P6)),(56,(vi P5))]) (fun _=>[]) fun Rm7 m7 vo st h=>?_
            obtain⟨P6,P5⟩:=st
            dsimp only[fM]at h
            cbv
            refine si h (fun h=>?_) fun h=>?_
            ·cbv
             refine ae h fun x67 acv h=>⟨_,al hM acv rfl,?_⟩;cbv
             refine si h (fun h=>?_) fun h=>?_
             ·cbv
              exact bN (vo _ _ h)
             cbv
             exact bN (vo _ _ h)
            cbv
            refine letE h fun n70 ac2 h=>⟨_,ak hI hM ac2,?_⟩;cbv
            refine⟨_,gR (enc:=ao) (l:=[n70,P6,(I.wrap .i64 (I.sub (I.wrap .i64 (I.sub Mi yo)) 1))]) hM ⟨⟨(ah _),rfl⟩,⟨(ah _),rfl⟩,⟨(ah _),rfl⟩,trivial⟩,?_⟩;cbv
            refine ae h fun y71 aca h=>⟨_,fun hp=>us hc (dx hI hM (ax aca hp.1)),?_⟩;cbv
            refine si h (fun h=>?_) fun h=>?_
            ·as_aux_lemma=>
              cbv
              refine letE h fun ZK Jj h=>⟨_,ak hI hM Jj,?_⟩;cbv
              refine ae h fun Td Sf h=>⟨_,_,dF (enc:=ao) hI hM Sf (by decide) rfl,?_⟩;cbv
              refine letE h fun Xk Pa h=>?_
              refine letE h fun n75 ac1 h=>⟨_,_,gr (enc:=ao) hI hM Pa ac1 rfl (fun _=>rfl) (fun _=>rfl),?_⟩;cbv
              refine⟨_,ak hI hM Jj,?_⟩;cbv
              refine si h (fun h=>?_) fun h=>?_
              ·cbv
               refine ae h fun Xi Se h=>?_
               apply Exists.intro;refine⟨?_,_,rfl,?_⟩
               ·cbv
                refine⟨?_,trivial⟩
                refine⟨?_,trivial⟩
                refine⟨_,bJ (enc:=(aW M r)) (x:=(⟨fw.kind,fw.name,fw.num,[]⟩:aI)) hM ⟨rfl,rfl,rfl,(aH hM),trivial⟩ rfl,?_⟩;cbv
                refine⟨?_,trivial⟩
                refine⟨_,aw (enc:=(aW M r)) hI hM Se (fun _=>rfl) rfl (fun _=>rfl),?_⟩;cbv
                refine⟨?_,trivial⟩
                all_goals exact .inl rfl
               cbv
               refine letE h fun U4 RQ h=>⟨_,ak hI hM RQ,?_⟩;cbv
               refine⟨?_,trivial⟩
               refine⟨_,bJ (enc:=ao) (x:=(I.wrap .i64 (I.sub U4 1))) hM (ah _) rfl,?_⟩;cbv
               refine⟨?_,trivial⟩
               refine ae h fun HL Jn h=>⟨_,aw (enc:=ao) hI hM Jn (fun _=>rfl) rfl (fun _=>rfl),?_⟩;cbv
               refine⟨?_,trivial⟩
               cases h
               first|exact Or.inl rfl|exact bB
              cbv
              refine ae h fun u79 acI h=>?_
              refine ae h fun l80 adq h=>?_
              apply Exists.intro;refine⟨?_,_,rfl,?_⟩
              ·cbv
               refine⟨?_,trivial⟩
               refine⟨?_,trivial⟩
               refine⟨_,bJ (enc:=(aW M r)) (x:=(⟨fw.kind,fw.name,fw.num,Xk⟩:aI)) hM ⟨rfl,rfl,rfl,(dg hM acI),trivial⟩ rfl,?_⟩;cbv
               refine⟨?_,trivial⟩
               refine⟨_,aw (enc:=(aW M r)) hI hM adq (fun _=>rfl) rfl (fun _=>rfl),?_⟩;cbv
               refine⟨?_,trivial⟩
               all_goals exact .inl rfl
              cbv
              refine letE h fun n81 ac0 h=>⟨_,ak hI hM ac0,?_⟩;cbv
              refine⟨?_,trivial⟩
              refine⟨_,bJ (enc:=ao) (x:=(I.wrap .i64 (I.sub n81 1))) hM (ah _) rfl,?_⟩;cbv
              refine⟨?_,trivial⟩
              refine ae h fun l82 adp h=>⟨_,aw (enc:=ao) hI hM adp (fun _=>rfl) rfl (fun _=>rfl),?_⟩;cbv
              refine⟨?_,trivial⟩
              cases h
              first|exact Or.inl rfl|exact bB
            cbv
            refine letE h fun U3 Hr h=>⟨_,ak hI hM Hr,?_⟩;cbv
            refine lp h (fun(zQ,Bj,II)=>[(90,(vi II))]) (fun(zQ,Bj,II)=>[(12915008,.box [(vs dY.head),(vi dY.kids),(.gs r (.c 12915008 2) (M.map (aW M r) zQ)),(vi 0),(.gs r (.c 12915008 4) (M.map ao sV)),(.fn (.func 73) [(.aP q [(.sl p (M.map (aq M p) aV.blocks))] 0)])]),(12916086,.box [(vs ⟨#[]⟩),(vi 0),(.v fC),(vi 0),(.gs r (.c 12916086 4) (M.map ao Bj)),(.v .nilFunc)])]) fun Rm8 m8 D2 st h=>?_
            obtain⟨zQ,Bj,II⟩:=st
            dsimp only[fL]at h
            cbv
            refine si h (fun h=>?_) fun h=>?_
            ·as_aux_lemma=>
              cbv
              refine ae h fun BK acq h=>⟨_,al hM acq rfl,?_⟩;cbv
              refine si h (fun h=>?_) fun h=>?_
              ·cbv
               refine ae h fun UX Rq h=>⟨_,al hM Rq rfl,?_⟩;cbv
               refine⟨_,bJ (enc:=ao) (x:=UX) hM (ah _) rfl,?_⟩;cbv
               refine ae h fun l89 adm h=>⟨_,aw (enc:=ao) hI hM adm (fun _=>rfl) rfl (fun _=>rfl),?_⟩;cbv
               exact bN (D2 _ _ h)
              cbv
              refine si h (fun h=>?_) fun h=>?_
              ·cbv
               refine ae h fun x90 acp h=>?_
               refine ae h fun x91 aco h=>?_
               refine ae h fun x92 acn h=>?_
               apply Exists.intro;refine⟨?_,_,rfl,?_⟩
               ·cbv
                refine⟨_,al hM acp rfl,?_⟩;cbv
                refine⟨_,al hM aco rfl,?_⟩;cbv
                refine⟨_,al hM acn rfl,?_⟩;cbv
                all_goals exact .inl rfl
               cbv
               refine⟨_,bJ (enc:=ao) (x:=x92) hM (ah _) rfl,?_⟩;cbv
               refine ae h fun l93 adj h=>⟨_,aw (enc:=ao) hI hM adj (fun _=>rfl) rfl (fun _=>rfl),?_⟩;cbv
               exact bN (D2 _ _ h)
              cbv
              refine jU h fun j94 j95 hj h=>?_
              dsimp only at h
              refine aT none [(19,(vi j94)),(18,.any)] [(12915008,.box [(vs dY.head),(vi dY.kids),(.gs r (.c 12915008 2) (M.map (aW M r) j95)),(vi 0),(.gs r (.c 12915008 4) (M.map ao sV)),(.fn (.func 73) [(.aP q [(.sl p (M.map (aq M p) aV.blocks))] 0)])])] g nx ?_ ?_
              ·replace h:=hj
               cbv
               refine⟨?_,trivial⟩
               refine ae h fun y96 ab8 h=>⟨fun _=>rfl,(.sl r (M.map ao y96)),g,nx,fun ρ=>by cbv;exact us hc (dV hI hM ab8),?_⟩;cbv
               refine⟨?_,trivial⟩
               refine letE h fun n97 RP h=>⟨_,ak hI hM RP,?_⟩;cbv
               refine ae h fun l98 adh h=>⟨_,_,dF (enc:=ao) hI hM adh (by decide) rfl,?_⟩;cbv
               refine letE h fun l99 adg h=>?_
               refine letE h fun ais Sb h=>⟨_,_,gr (enc:=ao) hI hM adg Sb rfl (fun _=>rfl) (fun _=>rfl),?_⟩;cbv
               refine⟨_,ak hI hM RP,?_⟩;cbv
               refine si h (fun h=>?_) fun h=>?_
               ·cbv
                refine ae h fun Xq SA h=>?_
                apply Exists.intro;refine⟨?_,_,rfl,?_⟩
                ·cbv
                 refine⟨?_,trivial⟩
                 refine⟨?_,trivial⟩
                 refine⟨_,bJ (enc:=(aW M r)) (x:=(⟨BK.kind,BK.name,BK.num,[]⟩:aI)) hM ⟨rfl,rfl,rfl,(aH hM),trivial⟩ rfl,?_⟩;cbv
                 refine⟨?_,trivial⟩
                 refine⟨_,aw (enc:=(aW M r)) hI hM SA (fun _=>rfl) rfl (fun _=>rfl),?_⟩;cbv
                 refine⟨?_,trivial⟩
                 all_goals exact .inl rfl
                cbv
                refine letE h fun adO Sa h=>⟨_,ak hI hM Sa,?_⟩;cbv
                cases h
                first|exact Or.inl rfl|exact bB
               cbv
               refine ae h fun ahn RO h=>?_
               refine ae h fun Xp Sz h=>?_
               apply Exists.intro;refine⟨?_,_,rfl,?_⟩
               ·cbv
                refine⟨?_,trivial⟩
                refine⟨?_,trivial⟩
                refine⟨_,bJ (enc:=(aW M r)) (x:=(⟨BK.kind,BK.name,BK.num,l99⟩:aI)) hM ⟨rfl,rfl,rfl,(dg hM RO),trivial⟩ rfl,?_⟩;cbv
                refine⟨?_,trivial⟩
                refine⟨_,aw (enc:=(aW M r)) hI hM Sz (fun _=>rfl) rfl (fun _=>rfl),?_⟩;cbv
                refine⟨?_,trivial⟩
                all_goals exact .inl rfl
               cbv
               refine letE h fun HJ Dt h=>⟨_,ak hI hM Dt,?_⟩;cbv
               cases h
               first|exact Or.inl rfl|exact bB
              clear hj
              cbv
              refine⟨_,bJ (enc:=ao) (x:=j94) hM (ah _) rfl,?_⟩;cbv
              refine ae h fun adW Sy h=>⟨_,aw (enc:=ao) hI hM Sy (fun _=>rfl) rfl (fun _=>rfl),?_⟩;cbv
              exact bN (D2 _ _ h)
            cbv
            refine ae h fun QH RH h=>?_
            apply Exists.intro;refine⟨?_,_,rfl,?_⟩
            ·cbv
             refine⟨_,al hM RH rfl,?_⟩;cbv
             all_goals exact .inl rfl
            cbv
            refine⟨?_,trivial⟩
            refine⟨_,bJ (enc:=ao) (x:=QH) hM (ah _) rfl,?_⟩;cbv
            refine⟨?_,trivial⟩
            refine ae h fun JX Dw h=>⟨_,aw (enc:=ao) hI hM Dw (fun _=>rfl) rfl (fun _=>rfl),?_⟩;cbv
            refine⟨?_,trivial⟩
            cases h
            first|exact Or.inl rfl|exact bB
          cbv
          refine ae h fun ad5 Jq h=>?_
          refine ae h fun aaQ RG h=>?_
          refine ae h fun aaP RF h=>?_
          refine ae h fun ad4 Jp h=>?_
          refine ae h fun aaO RE h=>?_
          refine ae h fun aaN RD h=>?_
          refine letE h fun S7 R5 h=>?_
          apply Exists.intro;refine⟨?_,_,rfl,?_⟩
          ·cbv
           (first|refine⟨_,⟨rfl,rfl,aK hI Jq⟩,?_⟩|refine⟨_,aK hI Jq,?_⟩)
           cbv
           refine⟨_,_,rfl,ba hM RG,rfl,?_⟩;cbv
           refine⟨_,al hM RF rfl,?_⟩;cbv
           (first|refine⟨_,⟨rfl,rfl,aK hI Jp⟩,?_⟩|refine⟨_,aK hI Jp,?_⟩)
           cbv
           refine⟨_,_,rfl,ba hM RE,rfl,?_⟩;cbv
           refine⟨_,al hM RD rfl,?_⟩;cbv
           refine⟨_,ak hI hM R5,?_⟩;cbv
           all_goals exact .inl rfl
          cbv
          refine⟨_,rfl,?_⟩;cbv
          refine lp h (fun _=>[]) (fun _=>[]) fun Rm9 m9 TT st h=>?_
          dsimp only[fK]at h
          cbv
          refine eS (iB hI (by decide)) ?_;cbv
          refine letE h fun S6 R4 h=>⟨_,ak hI hM R4,?_⟩;cbv
          refine⟨_,gR (enc:=ao) (l:=[S6,0,(I.wrap .i64 (I.sub (I.wrap .i64 (I.sub S7 yo)) 1))]) hM ⟨⟨(ah _),rfl⟩,⟨(ah _),rfl⟩,⟨(ah _),rfl⟩,trivial⟩,?_⟩;cbv
          refine ae h fun aaH Ro h=>⟨_,fun hp=>us hc (dx hI hM (ax Ro hp.1)),?_⟩;cbv
          refine si h (fun h=>?_) fun h=>?_
          ·as_aux_lemma=>
            cbv
            refine letE h fun Xd Jl h=>⟨_,ak hI hM Jl,?_⟩;cbv
            refine ae h fun Ps Sr h=>⟨_,_,dF (enc:=ao) hI hM Sr (by decide) rfl,?_⟩;cbv
            refine letE h fun Pq Sq h=>?_
            refine letE h fun aiq R0 h=>⟨_,_,gr (enc:=ao) hI hM Sq R0 rfl (fun _=>rfl) (fun _=>rfl),?_⟩;cbv
            refine⟨_,ak hI hM Jl,?_⟩;cbv
            refine si h (fun h=>?_) fun h=>?_
            ·cbv
             refine ae h fun Xn Sp h=>?_
             apply Exists.intro;refine⟨?_,_,rfl,?_⟩
             ·cbv
              refine⟨?_,trivial⟩
              refine⟨?_,trivial⟩
              refine⟨_,bJ (enc:=(aW M r)) (x:=(⟨fw.kind,fw.name,fw.num,[]⟩:aI)) hM ⟨rfl,rfl,rfl,(aH hM),trivial⟩ rfl,?_⟩;cbv
              refine⟨?_,trivial⟩
              refine⟨_,aw (enc:=(aW M r)) hI hM Sp (fun _=>rfl) rfl (fun _=>rfl),?_⟩;cbv
              refine⟨?_,trivial⟩
              all_goals exact .inl rfl
             cbv
             refine letE h fun S5 RZ h=>⟨_,ak hI hM RZ,?_⟩;cbv
             refine⟨?_,trivial⟩
             refine⟨_,bJ (enc:=ao) (x:=(I.wrap .i64 (I.sub S5 1))) hM (ah _) rfl,?_⟩;cbv
             refine⟨?_,trivial⟩
             refine ae h fun Pp FQ h=>⟨_,aw (enc:=ao) hI hM FQ (fun _=>rfl) rfl (fun _=>rfl),?_⟩;cbv
             refine⟨?_,trivial⟩
             cases h
             first|exact Or.inl rfl|exact bB
            cbv
            refine ae h fun ahl RM h=>?_
            refine ae h fun Po So h=>?_
            apply Exists.intro;refine⟨?_,_,rfl,?_⟩
            ·cbv
             refine⟨?_,trivial⟩
             refine⟨?_,trivial⟩
             refine⟨_,bJ (enc:=(aW M r)) (x:=(⟨fw.kind,fw.name,fw.num,Pq⟩:aI)) hM ⟨rfl,rfl,rfl,(dg hM RM),trivial⟩ rfl,?_⟩;cbv
             refine⟨?_,trivial⟩
             refine⟨_,aw (enc:=(aW M r)) hI hM So (fun _=>rfl) rfl (fun _=>rfl),?_⟩;cbv
             refine⟨?_,trivial⟩
             all_goals exact .inl rfl
            cbv
            refine letE h fun S4 RY h=>⟨_,ak hI hM RY,?_⟩;cbv
            refine⟨?_,trivial⟩
            refine⟨_,bJ (enc:=ao) (x:=(I.wrap .i64 (I.sub S4 1))) hM (ah _) rfl,?_⟩;cbv
            refine⟨?_,trivial⟩
            refine ae h fun Xm Sn h=>⟨_,aw (enc:=ao) hI hM Sn (fun _=>rfl) rfl (fun _=>rfl),?_⟩;cbv
            refine⟨?_,trivial⟩
            cases h
            first|exact Or.inl rfl|exact bB
          cbv
          refine⟨_,rfl,?_⟩;cbv
          refine lp h (fun _=>[]) (fun _=>[]) fun akM m10 TU st h=>?_
          dsimp only[je]at h
          cbv
          refine eS (iB hI (by decide)) ?_;cbv
          cases h
         clear hj
         cbv
         exact bN (ox _ _ h)
       cbv
       refine ae h fun aaL ahN h=>?_
       apply Exists.intro;refine⟨?_,_,rfl,?_⟩
       ·cbv
        refine⟨_,al hM ahN rfl,?_⟩;cbv
        refine⟨?_,trivial⟩
        all_goals exact .inl rfl
       cbv
       refine ae h fun aiO ZD h=>?_
       (first|refine⟨_,⟨rfl,rfl,aK hI ZD⟩,?_⟩|refine⟨_,aK hI ZD,?_⟩)
       cbv
       refine ae h fun ahg ahM h=>⟨_,_,rfl,ba hM ahM,rfl,?_⟩;cbv
       refine ae h fun ad2 ah3 h=>⟨_,bV hI hM ah3,?_⟩;cbv
       refine ae h fun Vs RB h=>?_
       refine ae h fun aiG ahW h=>?_
       refine ae h fun aiF ZC h=>?_
       apply Exists.intro;refine⟨?_,_,rfl,?_⟩
       ·cbv
        refine⟨_,_,_,⟨rfl,ba (enc:=(aq M r)) hM RB,rfl,rfl⟩,?_⟩;cbv
        refine⟨?_,trivial⟩
        refine⟨_,bJ (enc:=(az M r)) (x:=(⟨dY.head,dY.kids,oQ,aaL⟩:ag)) hM (ah _) rfl,?_⟩;cbv
        refine⟨?_,trivial⟩
        refine⟨_,aw (enc:=(az M r)) hI hM ahW (fun _=>rfl) rfl (fun _=>rfl),?_⟩;cbv
        refine⟨?_,trivial⟩
        (first|refine⟨_,qQ (enc:=(aq M r)) hI hM RB ZC (show 2<3 from by decide) rfl,?_⟩|refine⟨rfl,rfl,rfl,_,qQ (enc:=(aq M r)) hI hM RB ZC (show 2<3 from by decide) rfl,?_⟩)
        cbv
        all_goals exact .inl rfl
       cbv
       try(refine⟨rfl,?_⟩;cbv)
       refine lK hI ?_;cbv
       exact bN (pW _ _ h)
     cbv
     exact bN (jE _ _ h)
   cbv
   try(refine⟨rfl,?_⟩;cbv)
   refine ae h fun amj ahS h=>?_
   obtain rfl:=Option.some.inj h
   cbv
   all_goals(repeat' apply And.intro)
   all_goals first|trivial|rfl|exact(aH hM)|exact(dg hM ahS)
 cbv
 cases h
end Ab
