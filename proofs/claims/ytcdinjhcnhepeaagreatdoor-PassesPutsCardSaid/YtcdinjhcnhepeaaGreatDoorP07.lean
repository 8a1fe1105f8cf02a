/- PassesPuts holds of every core (no condition): a part of the proof: an abstract interpreter of the code that is proved sound, models of the functions, and laws of these models. -/
import Derived.Test.YtcdinjhcnhepeaaGreatDoorP02
import Derived.Test.YtcdinjhcnhepeaaGreatDoorP03
import Derived.Test.YtcdinjhcnhepeaaGreatDoorP04
set_option linter.unusedVariables false
set_option linter.unusedSimpArgs false
namespace Ab
open Go Go.Proofs.Tryz
set_option maxHeartbeats 100000000
set_option maxRecDepth 100000
variable{I:Pr}(hI:I=an){M:Md}(hM:M= .an){n nx r s p q u rl:Nat}{g:Nat→Option Ob}
 include hI hM
theorem sw{a0:ai}{v:ai×Int}(h:qZ I M n a0=some v):
  bQ 12 [(.agg (aX M p a0))] (.gd [(.agg (aX M r v.1)),(vi v.2)]) g nx:=by
 refine yc func12 c12 r abX af7 [5] 16 ntmps12 [.cell 2 24,.tmp 3] hI (bh.cons (pX r) (bh.cons (tg r) (bh.cons (XU r) (bh.cons (XV r) (bh.cons (th r) (bh.cons (wx r) (sL PP fQ))))))) 8 fun call hc=>?_
 cbv
 refine ae h fun y1 cR h=>⟨_,_,_,us hc (cP hI hM cR),?_⟩;cbv
 refine si h (fun h=>by cbv;cases h;exact fin) fun h=>?_
 cbv
 refine letE h fun n2 mP h=>⟨_,ak hI hM mP,?_⟩;cbv
 refine iu n (fun jJ aQ=>?_);cbv
 refine si h (fun h=>?_) fun h=>?_
 ·as_aux_lemma=>
   cbv
   refine ae h fun x3 jt h=>⟨_,al hM jt rfl,?_⟩;cbv
   refine⟨_,Ou (by rfl),?_⟩;cbv
   refine ae h fun l4 KN h=>⟨pM hI KN,_,_,xF (enc:=(aq M r)) hI hM KN (by have e0:=aH (enc:=(az M r)) hM;simp only[aq,vi,vs,vb,b8,dS,e0]),?_⟩;cbv
   refine aQ _ (lpD h [50009] (fun(l5,z6)=>[(19,(vi z6)),(20,.any)]) (fun(l5,z6)=>[(50007,.box [(.iq (.s 50031) (M.ln l5))]),(50031,.ow (.sl 3) none (M.map (aq M r) l5))]) fun AO m2 cS st h=>?_)
   obtain⟨l5,z6⟩:=st
   dsimp only[tR]at h
   cbv
   refine si h (fun h=>?_) fun h=>?_
   ·cbv
    refine ae h fun x7 Bb h=>⟨_,al hM Bb rfl,?_⟩;cbv
    refine⟨_,Ou (by rfl),?_⟩;cbv
    refine ae h fun l8 Sd h=>?_
    (refine⟨_,_,DB (enc:=(aq M r)) hI hM Sd ?_,?_⟩;next=>have e0:=aH (enc:=(az M r)) hM;simp only[aq,vi,vs,vb,b8,dS,e0])
    cbv
    exact bN (cS _ _ h)
   cbv
   intro l
   cbv
   refine letE h fun ub xE h=>⟨_,ak hI hM xE,?_⟩;cbv
   refine lp h (fun(iJ,wI,eg)=>[(10,(vi eg))]) (fun(iJ,wI,eg)=>[(5,.box [(.sl p (M.map bL iJ))]),(50031,.ow (.sl 3) none (M.map (aq M r) wI))]) fun M6 m3 jE st h=>?_
   obtain⟨iJ,wI,eg⟩:=st
   dsimp only[tQ]at h
   cbv
   refine si h (fun h=>?_) fun h=>?_
   ·as_aux_lemma=>
     cbv
     refine ae h fun ym BO h=>⟨_,al hM BO rfl,?_⟩;cbv
     refine letE h fun DJ Ds h=>⟨_,ak hI hM Ds,?_⟩;cbv
     refine lp h (fun(tT,qF,ey)=>[(18,(vi ey))]) (fun(tT,qF,ey)=>[(5,.box [(.sl p (M.map bL tT))]),(50031,.ow (.sl 3) none (M.map (aq M r) qF))]) fun Qt m4 pW st h=>?_
     obtain⟨tT,qF,ey⟩:=st
     dsimp only[tP]at h
     cbv
     refine si h (fun h=>?_) fun h=>?_
     ·as_aux_lemma=>
       cbv
       refine ae h fun dY Dp h=>⟨_,al hM Dp rfl,?_⟩;cbv
       try(refine⟨⟨rfl,rfl,rfl⟩,?_⟩;cbv)
       refine letE h fun u9 Hy h=>⟨_,⟨rfl,iz (enc:=ao) hI hM Hy rfl⟩,?_⟩;cbv
       refine ae h fun Vv yK h=>?_
       (first|refine⟨_,⟨aR hI hM yK,qP (enc:=ao) (l:=[eg,ey]) hI hM rfl⟩,?_⟩|refine⟨_,⟨rfl,aR hI hM yK,rfl,rfl,qP (enc:=ao) (l:=[eg,ey]) hI hM rfl⟩,?_⟩)
       cbv
       try(refine⟨rfl,?_⟩;cbv)
       refine ae h fun OL qi h=>?_
       (first|refine⟨⟨rfl,aR hI hM qi,rfl⟩,?_⟩|refine⟨⟨aR hI hM qi,trivial⟩,?_⟩|refine⟨aR hI hM qi,?_⟩)
       cbv
       try(refine⟨⟨by decide,by decide⟩,?_⟩;cbv)
       refine ae h fun Xs Ma h=>?_
       refine ae h fun zP LH h=>?_
       refine ae h fun x26 acE h=>?_
       refine ae h fun k27 ah1 h=>?_
       refine ae h fun x28 amO h=>?_
       refine ae h fun qc LG h=>?_
       refine ae h fun Gz Hk h=>?_
       apply Exists.intro;refine⟨?_,_,rfl,?_⟩
       ·cbv
        (first|refine⟨_,⟨rfl,rfl,aK hI Ma⟩,?_⟩|refine⟨_,aK hI Ma,?_⟩)
        cbv
        refine⟨_,_,rfl,ba hM LH,rfl,?_⟩;cbv
        refine⟨_,al hM acE rfl,?_⟩;cbv
        (first|refine⟨_,⟨rfl,rfl,aK hI ah1⟩,?_⟩|refine⟨_,aK hI ah1,?_⟩)
        cbv
        refine⟨_,_,rfl,ba hM amO,rfl,?_⟩;cbv
        refine⟨_,al hM LG rfl,?_⟩;cbv
        refine⟨?_,trivial⟩
        refine⟨_,_,_,us hc (B7 hI hM Hk),?_⟩;cbv
        refine⟨?_,trivial⟩
        all_goals exact .inl rfl
       cbv
       apply Exists.intro;refine⟨?_,_,rfl,?_⟩
       ·cbv
        refine⟨?_,?_⟩
        ·refine⟨?_,trivial⟩
         refine⟨?_,trivial⟩
         all_goals exact .inl rfl
        refine⟨?_,trivial⟩
        refine⟨?_,trivial⟩
        all_goals exact .inl rfl
       cbv
       refine letE h fun W9 LQ h=>⟨_,ak hI hM LQ,?_⟩;cbv
       refine lp h (fun(HO,F6,Cl)=>[(56,(vi Cl))]) (fun(HO,F6,Cl)=>[(12858018,.box [(vs dY.head),(vi dY.kids),(.gs r (.c 12858018 2) (M.map (aW M r) HO)),(vi 0),(.gs r (.c 12858018 4) (M.map ao F6)),(.v .nilFunc)])]) fun Qs m5 ox st h=>?_
       obtain⟨HO,F6,Cl⟩:=st
       dsimp only[tO]at h
       cbv
       refine si h (fun h=>?_) fun h=>?_
       ·as_aux_lemma=>
         cbv
         refine ae h fun oV Dn h=>⟨_,al hM Dn rfl,?_⟩;cbv
         refine jU h fun Py Fa hj h=>?_
         dsimp only at h
         refine aT none [(13,.any),(14,.any)] [(12858018,.box [(vs dY.head),(vi dY.kids),(.gs r (.c 12858018 2) (M.map (aW M r) Py)),(vi 0),(.gs r (.c 12858018 4) (M.map ao Fa)),(.v .nilFunc)])] g nx ?_ ?_
         ·replace h:=hj
          cbv
          refine⟨?_,?_⟩
          ·refine⟨?_,trivial⟩
           refine ae h fun x38 acC h=>⟨_,fun hp=>al hM (ax acC hp.1) rfl,?_⟩;cbv
           refine si h (fun h=>?_) fun h=>?_
           ·as_aux_lemma=>
             cbv
             refine jU h fun BV j40 hj h=>?_
             dsimp only at h
             refine aT none [(7,(vi BV)),(0,.any),(6,.any)] [(12858018,.box [(vs dY.head),(vi dY.kids),(.gs r (.c 12858018 2) (M.map (aW M r) j40)),(vi 0),(.gs r (.c 12858018 4) (M.map ao F6)),(.v .nilFunc)])] g nx ?_ ?_
             ·replace h:=hj
              cbv
              refine⟨?_,trivial⟩
              refine ae h fun P9 Ri h=>⟨fun _=>rfl,(.sl r (M.map ao P9)),g,nx,fun ρ=>by cbv;exact us hc (aD hI hM Ri),?_⟩;cbv
              refine⟨?_,trivial⟩
              refine letE h fun n42 RT h=>⟨_,ak hI hM RT,?_⟩;cbv
              refine ae h fun HN L1 h=>⟨_,_,dF (enc:=ao) hI hM L1 (by decide) rfl,?_⟩;cbv
              refine letE h fun E8 Ai h=>?_
              refine letE h fun JH Ah h=>⟨_,_,gr (enc:=ao) hI hM Ai Ah rfl (fun _=>rfl) (fun _=>rfl),?_⟩;cbv
              refine⟨_,ak hI hM RT,?_⟩;cbv
              refine si h (fun h=>?_) fun h=>?_
              ·cbv
               refine ae h fun l46 ady h=>?_
               apply Exists.intro;refine⟨?_,_,rfl,?_⟩
               ·cbv
                refine⟨?_,trivial⟩
                refine⟨?_,trivial⟩
                refine⟨_,bJ (enc:=(aW M r)) (x:=(⟨5,oV.name,oV.num,[]⟩:aI)) hM ⟨rfl,rfl,rfl,(aH hM),trivial⟩ rfl,?_⟩;cbv
                refine⟨?_,trivial⟩
                refine⟨_,aw (enc:=(aW M r)) hI hM ady (fun _=>rfl) rfl (fun _=>rfl),?_⟩;cbv
                refine⟨?_,trivial⟩
                all_goals exact .inl rfl
               cbv
               refine letE h fun n47 ac7 h=>⟨_,ak hI hM ac7,?_⟩;cbv
               cases h
               first|exact Or.inl rfl|exact bB
              cbv
              refine ae h fun u48 acN h=>?_
              refine ae h fun Tg Hx h=>?_
              apply Exists.intro;refine⟨?_,_,rfl,?_⟩
              ·cbv
               refine⟨?_,trivial⟩
               refine⟨?_,trivial⟩
               refine⟨_,bJ (enc:=(aW M r)) (x:=(⟨5,oV.name,oV.num,E8⟩:aI)) hM ⟨rfl,rfl,rfl,(dg hM acN),trivial⟩ rfl,?_⟩;cbv
               refine⟨?_,trivial⟩
               refine⟨_,aw (enc:=(aW M r)) hI hM Hx (fun _=>rfl) rfl (fun _=>rfl),?_⟩;cbv
               refine⟨?_,trivial⟩
               all_goals exact .inl rfl
              cbv
              refine letE h fun W8 LM h=>⟨_,ak hI hM LM,?_⟩;cbv
              cases h
              first|exact Or.inl rfl|exact bB
             clear hj
             cbv
             refine⟨?_,trivial⟩
             refine⟨_,bJ (enc:=ao) (x:=BV) hM (ah _) rfl,?_⟩;cbv
             refine⟨?_,trivial⟩
             refine ae h fun U9 Sh h=>⟨_,aw (enc:=ao) hI hM Sh (fun _=>rfl) rfl (fun _=>rfl),?_⟩;cbv
             refine⟨?_,trivial⟩
             cases h
             first|exact Or.inl rfl|exact bB
           cbv
           refine jU h fun j52 j53 hj h=>?_
           dsimp only at h
           refine aT none [(7,(vi j52)),(0,.any),(6,.any)] [(12858018,.box [(vs dY.head),(vi dY.kids),(.gs r (.c 12858018 2) (M.map (aW M r) j53)),(vi 0),(.gs r (.c 12858018 4) (M.map ao F6)),(.v .nilFunc)])] g nx ?_ ?_
           ·replace h:=hj
            cbv
            refine⟨?_,trivial⟩
            refine ae h fun UT O2 h=>⟨fun _=>rfl,(.sl r (M.map ao UT)),g,nx,fun ρ=>by cbv;exact us hc (aD hI hM O2),?_⟩;cbv
            refine⟨?_,trivial⟩
            refine letE h fun n55 RR h=>⟨_,ak hI hM RR,?_⟩;cbv
            refine ae h fun Pn EX h=>⟨_,_,dF (enc:=ao) hI hM EX (by decide) rfl,?_⟩;cbv
            refine letE h fun Tf LW h=>?_
            refine letE h fun S1 Ag h=>⟨_,_,gr (enc:=ao) hI hM LW Ag rfl (fun _=>rfl) (fun _=>rfl),?_⟩;cbv
            refine⟨_,ak hI hM RR,?_⟩;cbv
            refine si h (fun h=>?_) fun h=>?_
            ·cbv
             refine ae h fun JU Dv h=>?_
             apply Exists.intro;refine⟨?_,_,rfl,?_⟩
             ·cbv
              refine⟨?_,trivial⟩
              refine⟨?_,trivial⟩
              refine⟨_,bJ (enc:=(aW M r)) (x:=(⟨oV.kind,oV.name,oV.num,[]⟩:aI)) hM ⟨rfl,rfl,rfl,(aH hM),trivial⟩ rfl,?_⟩;cbv
              refine⟨?_,trivial⟩
              refine⟨_,aw (enc:=(aW M r)) hI hM Dv (fun _=>rfl) rfl (fun _=>rfl),?_⟩;cbv
              refine⟨?_,trivial⟩
              all_goals exact .inl rfl
             cbv
             refine letE h fun n60 O7 h=>⟨_,ak hI hM O7,?_⟩;cbv
             cases h
             first|exact Or.inl rfl|exact bB
            cbv
            refine ae h fun u61 acK h=>?_
            refine ae h fun Mn Du h=>?_
            apply Exists.intro;refine⟨?_,_,rfl,?_⟩
            ·cbv
             refine⟨?_,trivial⟩
             refine⟨?_,trivial⟩
             refine⟨_,bJ (enc:=(aW M r)) (x:=(⟨oV.kind,oV.name,oV.num,Tf⟩:aI)) hM ⟨rfl,rfl,rfl,(dg hM acK),trivial⟩ rfl,?_⟩;cbv
             refine⟨?_,trivial⟩
             refine⟨_,aw (enc:=(aW M r)) hI hM Du (fun _=>rfl) rfl (fun _=>rfl),?_⟩;cbv
             refine⟨?_,trivial⟩
             all_goals exact .inl rfl
            cbv
            refine letE h fun Mi Dq h=>⟨_,ak hI hM Dq,?_⟩;cbv
            cases h
            first|exact Or.inl rfl|exact bB
           clear hj
           cbv
           refine⟨?_,trivial⟩
           refine⟨_,bJ (enc:=ao) (x:=j52) hM (ah _) rfl,?_⟩;cbv
           refine⟨?_,trivial⟩
           refine ae h fun Pm Hw h=>⟨_,aw (enc:=ao) hI hM Hw (fun _=>rfl) rfl (fun _=>rfl),?_⟩;cbv
           refine⟨?_,trivial⟩
           cases h
           first|exact Or.inl rfl|exact bB
          refine⟨?_,trivial⟩
          refine ae h fun x38 acC h=>⟨_,fun hp=>al hM (ax acC hp.1) rfl,?_⟩;cbv
          refine si h (fun h=>?_) fun h=>?_
          ·as_aux_lemma=>
            cbv
            refine jU h fun BV j40 hj h=>?_
            dsimp only at h
            refine aT none [(7,(vi BV)),(0,.any),(6,.any)] [(12858018,.box [(vs dY.head),(vi dY.kids),(.gs r (.c 12858018 2) (M.map (aW M r) j40)),(vi 0),(.gs r (.c 12858018 4) (M.map ao F6)),(.v .nilFunc)])] g nx ?_ ?_
            ·replace h:=hj
             cbv
             refine⟨?_,trivial⟩
             refine ae h fun P9 Ri h=>⟨fun _=>rfl,(.sl r (M.map ao P9)),g,nx,fun ρ=>by cbv;exact us hc (aD hI hM Ri),?_⟩;cbv
             refine⟨?_,trivial⟩
             refine letE h fun n42 RT h=>⟨_,ak hI hM RT,?_⟩;cbv
             refine ae h fun HN L1 h=>⟨_,_,dF (enc:=ao) hI hM L1 (by decide) rfl,?_⟩;cbv
             refine letE h fun E8 Ai h=>?_
             refine letE h fun JH Ah h=>⟨_,_,gr (enc:=ao) hI hM Ai Ah rfl (fun _=>rfl) (fun _=>rfl),?_⟩;cbv
             refine⟨_,ak hI hM RT,?_⟩;cbv
             refine si h (fun h=>?_) fun h=>?_
             ·cbv
              refine ae h fun l46 ady h=>?_
              apply Exists.intro;refine⟨?_,_,rfl,?_⟩
              ·cbv
               refine⟨?_,trivial⟩
               refine⟨?_,trivial⟩
               refine⟨_,bJ (enc:=(aW M r)) (x:=(⟨5,oV.name,oV.num,[]⟩:aI)) hM ⟨rfl,rfl,rfl,(aH hM),trivial⟩ rfl,?_⟩;cbv
               refine⟨?_,trivial⟩
               refine⟨_,aw (enc:=(aW M r)) hI hM ady (fun _=>rfl) rfl (fun _=>rfl),?_⟩;cbv
               refine⟨?_,trivial⟩
               all_goals exact .inl rfl
              cbv
              refine letE h fun n47 ac7 h=>⟨_,ak hI hM ac7,?_⟩;cbv
              cases h
              first|exact Or.inl rfl|exact bB
             cbv
             refine ae h fun u48 acN h=>?_
             refine ae h fun Tg Hx h=>?_
             apply Exists.intro;refine⟨?_,_,rfl,?_⟩
             ·cbv
              refine⟨?_,trivial⟩
              refine⟨?_,trivial⟩
              refine⟨_,bJ (enc:=(aW M r)) (x:=(⟨5,oV.name,oV.num,E8⟩:aI)) hM ⟨rfl,rfl,rfl,(dg hM acN),trivial⟩ rfl,?_⟩;cbv
              refine⟨?_,trivial⟩
              refine⟨_,aw (enc:=(aW M r)) hI hM Hx (fun _=>rfl) rfl (fun _=>rfl),?_⟩;cbv
              refine⟨?_,trivial⟩
              all_goals exact .inl rfl
             cbv
             refine letE h fun W8 LM h=>⟨_,ak hI hM LM,?_⟩;cbv
             cases h
             first|exact Or.inl rfl|exact bB
            clear hj
            cbv
            refine⟨?_,trivial⟩
            refine⟨_,bJ (enc:=ao) (x:=BV) hM (ah _) rfl,?_⟩;cbv
            refine⟨?_,trivial⟩
            refine ae h fun U9 Sh h=>⟨_,aw (enc:=ao) hI hM Sh (fun _=>rfl) rfl (fun _=>rfl),?_⟩;cbv
            refine⟨?_,trivial⟩
            cases h
            first|exact Or.inl rfl|exact bB
          cbv
          refine jU h fun j52 j53 hj h=>?_
          dsimp only at h
          refine aT none [(7,(vi j52)),(0,.any),(6,.any)] [(12858018,.box [(vs dY.head),(vi dY.kids),(.gs r (.c 12858018 2) (M.map (aW M r) j53)),(vi 0),(.gs r (.c 12858018 4) (M.map ao F6)),(.v .nilFunc)])] g nx ?_ ?_
          ·replace h:=hj
           cbv
           refine⟨?_,trivial⟩
           refine ae h fun UT O2 h=>⟨fun _=>rfl,(.sl r (M.map ao UT)),g,nx,fun ρ=>by cbv;exact us hc (aD hI hM O2),?_⟩;cbv
           refine⟨?_,trivial⟩
           refine letE h fun n55 RR h=>⟨_,ak hI hM RR,?_⟩;cbv
           refine ae h fun Pn EX h=>⟨_,_,dF (enc:=ao) hI hM EX (by decide) rfl,?_⟩;cbv
           refine letE h fun Tf LW h=>?_
           refine letE h fun S1 Ag h=>⟨_,_,gr (enc:=ao) hI hM LW Ag rfl (fun _=>rfl) (fun _=>rfl),?_⟩;cbv
           refine⟨_,ak hI hM RR,?_⟩;cbv
           refine si h (fun h=>?_) fun h=>?_
           ·cbv
            refine ae h fun JU Dv h=>?_
            apply Exists.intro;refine⟨?_,_,rfl,?_⟩
            ·cbv
             refine⟨?_,trivial⟩
             refine⟨?_,trivial⟩
             refine⟨_,bJ (enc:=(aW M r)) (x:=(⟨oV.kind,oV.name,oV.num,[]⟩:aI)) hM ⟨rfl,rfl,rfl,(aH hM),trivial⟩ rfl,?_⟩;cbv
             refine⟨?_,trivial⟩
             refine⟨_,aw (enc:=(aW M r)) hI hM Dv (fun _=>rfl) rfl (fun _=>rfl),?_⟩;cbv
             refine⟨?_,trivial⟩
             all_goals exact .inl rfl
            cbv
            refine letE h fun n60 O7 h=>⟨_,ak hI hM O7,?_⟩;cbv
            cases h
            first|exact Or.inl rfl|exact bB
           cbv
           refine ae h fun u61 acK h=>?_
           refine ae h fun Mn Du h=>?_
           apply Exists.intro;refine⟨?_,_,rfl,?_⟩
           ·cbv
            refine⟨?_,trivial⟩
            refine⟨?_,trivial⟩
            refine⟨_,bJ (enc:=(aW M r)) (x:=(⟨oV.kind,oV.name,oV.num,Tf⟩:aI)) hM ⟨rfl,rfl,rfl,(dg hM acK),trivial⟩ rfl,?_⟩;cbv
            refine⟨?_,trivial⟩
            refine⟨_,aw (enc:=(aW M r)) hI hM Du (fun _=>rfl) rfl (fun _=>rfl),?_⟩;cbv
            refine⟨?_,trivial⟩
            all_goals exact .inl rfl
           cbv
           refine letE h fun Mi Dq h=>⟨_,ak hI hM Dq,?_⟩;cbv
           cases h
           first|exact Or.inl rfl|exact bB
          clear hj
          cbv
          refine⟨?_,trivial⟩
          refine⟨_,bJ (enc:=ao) (x:=j52) hM (ah _) rfl,?_⟩;cbv
          refine⟨?_,trivial⟩
          refine ae h fun Pm Hw h=>⟨_,aw (enc:=ao) hI hM Hw (fun _=>rfl) rfl (fun _=>rfl),?_⟩;cbv
          refine⟨?_,trivial⟩
          cases h
          first|exact Or.inl rfl|exact bB
         clear hj
         cbv
         exact bN (ox _ _ h)
       cbv
       refine ae h fun Vq Rv h=>?_
       apply Exists.intro;refine⟨?_,_,rfl,?_⟩
       ·cbv
        refine⟨_,al hM Rv rfl,?_⟩;cbv
        refine⟨?_,trivial⟩
        all_goals exact .inl rfl
       cbv
       refine ae h fun Va Pc h=>?_
       (first|refine⟨_,⟨rfl,rfl,aK hI Pc⟩,?_⟩|refine⟨_,aK hI Pc,?_⟩)
       cbv
       refine ae h fun Vp LD h=>⟨_,_,rfl,ba hM LD,rfl,?_⟩;cbv
       refine ae h fun k71 anr h=>⟨_,bV hI hM anr,?_⟩;cbv
       refine ae h fun Zq Ru h=>?_
       refine ae h fun Td Sf h=>?_
       refine ae h fun Xk Pa h=>?_
       apply Exists.intro;refine⟨?_,_,rfl,?_⟩
       ·cbv
        refine⟨_,_,_,⟨rfl,ba (enc:=(aq M r)) hM Ru,rfl,rfl⟩,?_⟩;cbv
        refine⟨?_,trivial⟩
        refine⟨_,bJ (enc:=(az M r)) (x:=(⟨dY.head,dY.kids,HO,Vq⟩:ag)) hM (ah _) rfl,?_⟩;cbv
        refine⟨?_,trivial⟩
        refine⟨_,aw (enc:=(az M r)) hI hM Sf (fun _=>rfl) rfl (fun _=>rfl),?_⟩;cbv
        refine⟨?_,trivial⟩
        (first|refine⟨_,qQ (enc:=(aq M r)) hI hM Ru Pa (show 2<3 from by decide) rfl,?_⟩|refine⟨rfl,rfl,rfl,_,qQ (enc:=(aq M r)) hI hM Ru Pa (show 2<3 from by decide) rfl,?_⟩)
        cbv
        all_goals exact .inl rfl
       cbv
       try(refine⟨rfl,?_⟩;cbv)
       refine lK hI ?_;cbv
       exact bN (pW _ _ h)
     cbv
     exact bN (jE _ _ h)
   cbv
   try(refine⟨rfl,?_⟩;cbv)
   refine ae h fun u81 amT h=>?_
   obtain rfl:=Option.some.inj h
   cbv
   all_goals(repeat' apply And.intro)
   all_goals first|trivial|rfl|exact(aH hM)|exact(dg hM amT)
 cbv
 cases h
end Ab
