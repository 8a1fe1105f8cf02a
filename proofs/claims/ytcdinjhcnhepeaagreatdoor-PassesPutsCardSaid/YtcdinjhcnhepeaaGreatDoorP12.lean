/- PassesPuts holds of every core (no condition): a part of the proof: an abstract interpreter of the code that is proved sound, models of the functions, and laws of these models. -/
import Derived.Test.YtcdinjhcnhepeaaGreatDoorP02
import Derived.Test.YtcdinjhcnhepeaaGreatDoorP03
import Derived.Test.YtcdinjhcnhepeaaGreatDoorP04
set_option linter.unusedVariables false
set_option linter.unusedSimpArgs false
namespace Ab
open Go Go.Proofs.Tryz
set_option maxHeartbeats 100000000
set_option maxRecDepth 100000
variable{I:Pr}(hI:I=an){M:Md}(hM:M= .an){n nx r s p q u rl:Nat}{g:Nat→Option Ob}
 include hI hM
theorem B9{a0:ai}{v:ai×Int}(h:yO I M n a0=some v):
  bQ 30 [(.agg (aX M r a0))] (.gd [(.agg (aX M r v.1)),(vi v.2)]) g nx:=by
 refine yc func30 c30 r abM afW [5] 42 ntmps30 [.cell 2 24,.tmp 3] hI (bh.cons (pX r) (bh.cons (tg r) (bh.cons (XR r) (bh.cons (Oc r) (bh.cons (th r) (bh.cons (wx r) (sL PP fQ))))))) 8 fun call hc=>?_
 cbv
 refine ae h fun y1 cR h=>⟨_,_,_,us hc (cP hI hM cR),?_⟩;cbv
 refine si h (fun h=>by cbv;cases h;exact fin) fun h=>?_
 cbv
 refine ae h fun y2 qX h=>⟨_,_,_,us hc (qM hI hM qX),?_⟩;cbv
 refine letE h fun l3 ND h=>⟨_,⟨rfl,iz (enc:=ao) hI hM ND rfl⟩,?_⟩;cbv
 refine ae h fun u4 qu4 h=>?_
 (first|refine⟨⟨rfl,rfl,rfl,aR hI hM qu4,rfl,(by have hq:=dI (enc:=ao) hM (fun _=>rfl) y2;rw[eb.eq_def]at hq;exact hq)⟩,?_⟩|refine⟨⟨aR hI hM qu4,(by have hq:=dI (enc:=ao) hM (fun _=>rfl) y2;rw[eb.eq_def]at hq;exact hq)⟩,?_⟩)
 cbv
 refine letE h fun n5 WW h=>⟨_,ak hI hM WW,?_⟩;cbv
 refine iu n (fun jJ aQ=>?_);cbv
 refine si h (fun h=>?_) fun h=>?_
 ·as_aux_lemma=>
   cbv
   refine ae h fun x6 v8 h=>⟨_,al hM v8 rfl,?_⟩;cbv
   refine⟨_,Ou (by rfl),?_⟩;cbv
   refine ae h fun l7 ZB h=>⟨pM hI ZB,_,_,xF (enc:=(aq M r)) hI hM ZB (by have e0:=aH (enc:=(az M r)) hM;simp only[aq,vi,vs,vb,b8,dS,e0]),?_⟩;cbv
   refine aQ _ (lpD h [50009] (fun(l8,z9)=>[(19,(vi z9)),(20,.any)]) (fun(l8,z9)=>[(50007,.box [(.iq (.s 50031) (M.ln l8))]),(50031,.ow (.sl 3) none (M.map (aq M r) l8))]) fun AO m2 cS st h=>?_)
   obtain⟨l8,z9⟩:=st
   dsimp only[uQ]at h
   cbv
   refine si h (fun h=>?_) fun h=>?_
   ·cbv
    refine ae h fun vX xC h=>⟨_,al hM xC rfl,?_⟩;cbv
    refine⟨_,Ou (by rfl),?_⟩;cbv
    refine ae h fun IB L7 h=>?_
    (refine⟨_,_,DB (enc:=(aq M r)) hI hM L7 ?_,?_⟩;next=>have e0:=aH (enc:=(az M r)) hM;simp only[aq,vi,vs,vb,b8,dS,e0])
    cbv
    exact bN (cS _ _ h)
   cbv
   intro l
   cbv
   refine letE h fun JI LU h=>⟨_,ak hI hM LU,?_⟩;cbv
   refine lp h (fun(wH,jV)=>[(10,(vi jV))]) (fun(wH,jV)=>[(50031,.ow (.sl 3) none (M.map (aq M r) wH))]) fun M6 m3 jE st h=>?_
   obtain⟨wH,jV⟩:=st
   dsimp only[uP]at h
   cbv
   refine si h (fun h=>?_) fun h=>?_
   ·as_aux_lemma=>
     cbv
     refine ae h fun qf Af h=>⟨_,al hM Af rfl,?_⟩;cbv
     refine letE h fun Qb RX h=>⟨_,ak hI hM RX,?_⟩;cbv
     refine lp h (fun(HP,AS)=>[(18,(vi AS))]) (fun(HP,AS)=>[(50031,.ow (.sl 3) none (M.map (aq M r) HP))]) fun Qt m4 pW st h=>?_
     obtain⟨HP,AS⟩:=st
     dsimp only[uO]at h
     cbv
     refine si h (fun h=>?_) fun h=>?_
     ·as_aux_lemma=>
       cbv
       refine ae h fun wQ Rz h=>⟨_,al hM Rz rfl,?_⟩;cbv
       try(refine⟨⟨rfl,rfl,rfl⟩,?_⟩;cbv)
       refine letE h fun Qe anj h=>⟨_,⟨rfl,iz (enc:=ao) hI hM anj rfl⟩,?_⟩;cbv
       refine ae h fun OL qi h=>?_
       (first|refine⟨_,⟨aR hI hM qi,qP (enc:=ao) (l:=[jV,AS]) hI hM rfl⟩,?_⟩|refine⟨_,⟨rfl,aR hI hM qi,rfl,rfl,qP (enc:=ao) (l:=[jV,AS]) hI hM rfl⟩,?_⟩)
       cbv
       try(refine⟨rfl,?_⟩;cbv)
       refine ae h fun u24 xD h=>?_
       (first|refine⟨⟨rfl,aR hI hM xD,rfl⟩,?_⟩|refine⟨⟨aR hI hM xD,trivial⟩,?_⟩|refine⟨aR hI hM xD,?_⟩)
       cbv
       try(refine⟨⟨by decide,by decide⟩,?_⟩;cbv)
       apply Exists.intro;refine⟨?_,_,rfl,?_⟩
       ·cbv
        refine⟨?_,?_⟩
        ·refine⟨?_,trivial⟩
         refine⟨?_,trivial⟩
         all_goals exact .inl rfl
        refine⟨?_,trivial⟩
        refine⟨?_,trivial⟩
        all_goals exact .inl rfl
       cbv
       refine letE h fun n25 am7 h=>⟨_,ak hI hM am7,?_⟩;cbv
       refine lp h (fun(JW,oQ,Iy)=>[(56,(vi Iy))]) (fun(JW,oQ,Iy)=>[(12887004,.box [(vs wQ.head),(vi wQ.kids),(.gs r (.c 12887004 2) (M.map (aW M r) JW)),(vi 0),(.gs r (.c 12887004 4) (M.map ao oQ)),(.v .nilFunc)])]) fun Qs m5 ox st h=>?_
       obtain⟨JW,oQ,Iy⟩:=st
       dsimp only[uN]at h
       cbv
       refine si h (fun h=>?_) fun h=>?_
       ·as_aux_lemma=>
         cbv
         refine ae h fun qc LG h=>⟨_,al hM LG rfl,?_⟩;cbv
         refine jU h fun j30 Ts hj h=>?_
         dsimp only at h
         refine aT none [(13,.any),(14,.any)] [(12887004,.box [(vs wQ.head),(vi wQ.kids),(.gs r (.c 12887004 2) (M.map (aW M r) j30)),(vi 0),(.gs r (.c 12887004 4) (M.map ao Ts)),(.v .nilFunc)])] g nx ?_ ?_
         ·replace h:=hj
          cbv
          refine⟨?_,?_⟩
          ·refine⟨?_,trivial⟩
           refine ae h fun y32 Lz h=>⟨_,_,_,us hc (dj hI hM Lz),?_⟩;cbv
           refine si h (fun h=>?_) fun h=>?_
           ·as_aux_lemma=>
             cbv
             refine ae h fun wB Di h=>⟨_,_,_,us hc (mu hI hM Di),?_⟩;cbv
             refine ae h fun k34 SE h=>?_
             refine ae h fun oV Dn h=>?_
             refine ae h fun GM Dm h=>?_
             apply Exists.intro;refine⟨?_,_,rfl,?_⟩
             ·cbv
              (first|refine⟨_,⟨rfl,rfl,aK hI SE⟩,?_⟩|refine⟨_,aK hI SE,?_⟩)
              cbv
              refine⟨_,_,rfl,ba hM Dn,rfl,?_⟩;cbv
              refine⟨_,al hM Dm rfl,?_⟩;cbv
              refine⟨?_,trivial⟩
              all_goals exact .inl rfl
             cbv
             refine jU h fun Fa s7 hj h=>?_
             dsimp only at h
             refine aT none [(8,(vi Fa)),(0,.any),(7,.any)] [(12887004,.box [(vs wQ.head),(vi wQ.kids),(.gs r (.c 12887004 2) (M.map (aW M r) s7)),(vi 0),(.gs r (.c 12887004 4) (M.map ao oQ)),(.v .nilFunc)])] g nx ?_ ?_
             ·replace h:=hj
              cbv
              refine⟨?_,trivial⟩
              refine ae h fun QA Rj h=>⟨fun _=>rfl,(.sl r (M.map ao QA)),g,nx,fun ρ=>by cbv;exact us hc (aD hI hM Rj),?_⟩;cbv
              refine⟨?_,trivial⟩
              refine letE h fun n40 RV h=>⟨_,ak hI hM RV,?_⟩;cbv
              refine ae h fun Qd L3 h=>⟨_,_,dF (enc:=ao) hI hM L3 (by decide) rfl,?_⟩;cbv
              refine letE h fun BS L2 h=>?_
              refine letE h fun n43 Ht h=>⟨_,_,gr (enc:=ao) hI hM L2 Ht rfl (fun _=>rfl) (fun _=>rfl),?_⟩;cbv
              refine⟨_,ak hI hM RV,?_⟩;cbv
              refine si h (fun h=>?_) fun h=>?_
              ·cbv
               refine ae h fun E8 Ai h=>?_
               apply Exists.intro;refine⟨?_,_,rfl,?_⟩
               ·cbv
                refine⟨?_,trivial⟩
                refine⟨?_,trivial⟩
                refine⟨_,bJ (enc:=(aW M r)) (x:=(⟨qc.kind,GM.name,qc.num,[]⟩:aI)) hM ⟨rfl,rfl,rfl,(aH hM),trivial⟩ rfl,?_⟩;cbv
                refine⟨?_,trivial⟩
                refine⟨_,aw (enc:=(aW M r)) hI hM Ai (fun _=>rfl) rfl (fun _=>rfl),?_⟩;cbv
                refine⟨?_,trivial⟩
                all_goals exact .inl rfl
               cbv
               refine letE h fun JH Ah h=>⟨_,ak hI hM Ah,?_⟩;cbv
               cases h
               first|exact Or.inl rfl|exact bB
              cbv
              refine ae h fun u46 acP h=>?_
              refine ae h fun Th LZ h=>?_
              apply Exists.intro;refine⟨?_,_,rfl,?_⟩
              ·cbv
               refine⟨?_,trivial⟩
               refine⟨?_,trivial⟩
               refine⟨_,bJ (enc:=(aW M r)) (x:=(⟨qc.kind,GM.name,qc.num,BS⟩:aI)) hM ⟨rfl,rfl,rfl,(dg hM acP),trivial⟩ rfl,?_⟩;cbv
               refine⟨?_,trivial⟩
               refine⟨_,aw (enc:=(aW M r)) hI hM LZ (fun _=>rfl) rfl (fun _=>rfl),?_⟩;cbv
               refine⟨?_,trivial⟩
               all_goals exact .inl rfl
              cbv
              refine letE h fun KP Dr h=>⟨_,ak hI hM Dr,?_⟩;cbv
              cases h
              first|exact Or.inl rfl|exact bB
             clear hj
             cbv
             refine⟨?_,trivial⟩
             refine⟨_,bJ (enc:=ao) (x:=Fa) hM (ah _) rfl,?_⟩;cbv
             refine⟨?_,trivial⟩
             refine ae h fun Tg Hx h=>⟨_,aw (enc:=ao) hI hM Hx (fun _=>rfl) rfl (fun _=>rfl),?_⟩;cbv
             refine⟨?_,trivial⟩
             cases h
             first|exact Or.inl rfl|exact bB
           cbv
           refine jU h fun j50 j51 hj h=>?_
           dsimp only at h
           refine aT none [(8,(vi j50)),(0,.any),(7,.any)] [(12887004,.box [(vs wQ.head),(vi wQ.kids),(.gs r (.c 12887004 2) (M.map (aW M r) j51)),(vi 0),(.gs r (.c 12887004 4) (M.map ao oQ)),(.v .nilFunc)])] g nx ?_ ?_
           ·replace h:=hj
            cbv
            refine⟨?_,trivial⟩
            refine ae h fun Fs O3 h=>⟨fun _=>rfl,(.sl r (M.map ao Fs)),g,nx,fun ρ=>by cbv;exact us hc (aD hI hM O3),?_⟩;cbv
            refine⟨?_,trivial⟩
            refine letE h fun n53 RS h=>⟨_,ak hI hM RS,?_⟩;cbv
            refine ae h fun IA LY h=>⟨_,_,dF (enc:=ao) hI hM LY (by decide) rfl,?_⟩;cbv
            refine letE h fun U8 LX h=>?_
            refine letE h fun ZM LL h=>⟨_,_,gr (enc:=ao) hI hM LX LL rfl (fun _=>rfl) (fun _=>rfl),?_⟩;cbv
            refine⟨_,ak hI hM RS,?_⟩;cbv
            refine si h (fun h=>?_) fun h=>?_
            ·cbv
             refine ae h fun Tf LW h=>?_
             apply Exists.intro;refine⟨?_,_,rfl,?_⟩
             ·cbv
              refine⟨?_,trivial⟩
              refine⟨?_,trivial⟩
              refine⟨_,bJ (enc:=(aW M r)) (x:=(⟨qc.kind,qc.name,qc.num,[]⟩:aI)) hM ⟨rfl,rfl,rfl,(aH hM),trivial⟩ rfl,?_⟩;cbv
              refine⟨?_,trivial⟩
              refine⟨_,aw (enc:=(aW M r)) hI hM LW (fun _=>rfl) rfl (fun _=>rfl),?_⟩;cbv
              refine⟨?_,trivial⟩
              all_goals exact .inl rfl
             cbv
             refine letE h fun S1 Ag h=>⟨_,ak hI hM Ag,?_⟩;cbv
             cases h
             first|exact Or.inl rfl|exact bB
            cbv
            refine ae h fun u59 acL h=>?_
            refine ae h fun NV EW h=>?_
            apply Exists.intro;refine⟨?_,_,rfl,?_⟩
            ·cbv
             refine⟨?_,trivial⟩
             refine⟨?_,trivial⟩
             refine⟨_,bJ (enc:=(aW M r)) (x:=(⟨qc.kind,qc.name,qc.num,U8⟩:aI)) hM ⟨rfl,rfl,rfl,(dg hM acL),trivial⟩ rfl,?_⟩;cbv
             refine⟨?_,trivial⟩
             refine⟨_,aw (enc:=(aW M r)) hI hM EW (fun _=>rfl) rfl (fun _=>rfl),?_⟩;cbv
             refine⟨?_,trivial⟩
             all_goals exact .inl rfl
            cbv
            refine letE h fun W7 Hs h=>⟨_,ak hI hM Hs,?_⟩;cbv
            cases h
            first|exact Or.inl rfl|exact bB
           clear hj
           cbv
           refine⟨?_,trivial⟩
           refine⟨_,bJ (enc:=ao) (x:=j50) hM (ah _) rfl,?_⟩;cbv
           refine⟨?_,trivial⟩
           refine ae h fun Mn Du h=>⟨_,aw (enc:=ao) hI hM Du (fun _=>rfl) rfl (fun _=>rfl),?_⟩;cbv
           refine⟨?_,trivial⟩
           cases h
           first|exact Or.inl rfl|exact bB
          refine⟨?_,trivial⟩
          refine ae h fun y32 Lz h=>⟨_,_,_,us hc (dj hI hM Lz),?_⟩;cbv
          refine si h (fun h=>?_) fun h=>?_
          ·as_aux_lemma=>
            cbv
            refine ae h fun wB Di h=>⟨_,_,_,us hc (mu hI hM Di),?_⟩;cbv
            refine ae h fun k34 SE h=>?_
            refine ae h fun oV Dn h=>?_
            refine ae h fun GM Dm h=>?_
            apply Exists.intro;refine⟨?_,_,rfl,?_⟩
            ·cbv
             (first|refine⟨_,⟨rfl,rfl,aK hI SE⟩,?_⟩|refine⟨_,aK hI SE,?_⟩)
             cbv
             refine⟨_,_,rfl,ba hM Dn,rfl,?_⟩;cbv
             refine⟨_,al hM Dm rfl,?_⟩;cbv
             refine⟨?_,trivial⟩
             all_goals exact .inl rfl
            cbv
            refine jU h fun Fa s7 hj h=>?_
            dsimp only at h
            refine aT none [(8,(vi Fa)),(0,.any),(7,.any)] [(12887004,.box [(vs wQ.head),(vi wQ.kids),(.gs r (.c 12887004 2) (M.map (aW M r) s7)),(vi 0),(.gs r (.c 12887004 4) (M.map ao oQ)),(.v .nilFunc)])] g nx ?_ ?_
            ·replace h:=hj
             cbv
             refine⟨?_,trivial⟩
             refine ae h fun QA Rj h=>⟨fun _=>rfl,(.sl r (M.map ao QA)),g,nx,fun ρ=>by cbv;exact us hc (aD hI hM Rj),?_⟩;cbv
             refine⟨?_,trivial⟩
             refine letE h fun n40 RV h=>⟨_,ak hI hM RV,?_⟩;cbv
             refine ae h fun Qd L3 h=>⟨_,_,dF (enc:=ao) hI hM L3 (by decide) rfl,?_⟩;cbv
             refine letE h fun BS L2 h=>?_
             refine letE h fun n43 Ht h=>⟨_,_,gr (enc:=ao) hI hM L2 Ht rfl (fun _=>rfl) (fun _=>rfl),?_⟩;cbv
             refine⟨_,ak hI hM RV,?_⟩;cbv
             refine si h (fun h=>?_) fun h=>?_
             ·cbv
              refine ae h fun E8 Ai h=>?_
              apply Exists.intro;refine⟨?_,_,rfl,?_⟩
              ·cbv
               refine⟨?_,trivial⟩
               refine⟨?_,trivial⟩
               refine⟨_,bJ (enc:=(aW M r)) (x:=(⟨qc.kind,GM.name,qc.num,[]⟩:aI)) hM ⟨rfl,rfl,rfl,(aH hM),trivial⟩ rfl,?_⟩;cbv
               refine⟨?_,trivial⟩
               refine⟨_,aw (enc:=(aW M r)) hI hM Ai (fun _=>rfl) rfl (fun _=>rfl),?_⟩;cbv
               refine⟨?_,trivial⟩
               all_goals exact .inl rfl
              cbv
              refine letE h fun JH Ah h=>⟨_,ak hI hM Ah,?_⟩;cbv
              cases h
              first|exact Or.inl rfl|exact bB
             cbv
             refine ae h fun u46 acP h=>?_
             refine ae h fun Th LZ h=>?_
             apply Exists.intro;refine⟨?_,_,rfl,?_⟩
             ·cbv
              refine⟨?_,trivial⟩
              refine⟨?_,trivial⟩
              refine⟨_,bJ (enc:=(aW M r)) (x:=(⟨qc.kind,GM.name,qc.num,BS⟩:aI)) hM ⟨rfl,rfl,rfl,(dg hM acP),trivial⟩ rfl,?_⟩;cbv
              refine⟨?_,trivial⟩
              refine⟨_,aw (enc:=(aW M r)) hI hM LZ (fun _=>rfl) rfl (fun _=>rfl),?_⟩;cbv
              refine⟨?_,trivial⟩
              all_goals exact .inl rfl
             cbv
             refine letE h fun KP Dr h=>⟨_,ak hI hM Dr,?_⟩;cbv
             cases h
             first|exact Or.inl rfl|exact bB
            clear hj
            cbv
            refine⟨?_,trivial⟩
            refine⟨_,bJ (enc:=ao) (x:=Fa) hM (ah _) rfl,?_⟩;cbv
            refine⟨?_,trivial⟩
            refine ae h fun Tg Hx h=>⟨_,aw (enc:=ao) hI hM Hx (fun _=>rfl) rfl (fun _=>rfl),?_⟩;cbv
            refine⟨?_,trivial⟩
            cases h
            first|exact Or.inl rfl|exact bB
          cbv
          refine jU h fun j50 j51 hj h=>?_
          dsimp only at h
          refine aT none [(8,(vi j50)),(0,.any),(7,.any)] [(12887004,.box [(vs wQ.head),(vi wQ.kids),(.gs r (.c 12887004 2) (M.map (aW M r) j51)),(vi 0),(.gs r (.c 12887004 4) (M.map ao oQ)),(.v .nilFunc)])] g nx ?_ ?_
          ·replace h:=hj
           cbv
           refine⟨?_,trivial⟩
           refine ae h fun Fs O3 h=>⟨fun _=>rfl,(.sl r (M.map ao Fs)),g,nx,fun ρ=>by cbv;exact us hc (aD hI hM O3),?_⟩;cbv
           refine⟨?_,trivial⟩
           refine letE h fun n53 RS h=>⟨_,ak hI hM RS,?_⟩;cbv
           refine ae h fun IA LY h=>⟨_,_,dF (enc:=ao) hI hM LY (by decide) rfl,?_⟩;cbv
           refine letE h fun U8 LX h=>?_
           refine letE h fun ZM LL h=>⟨_,_,gr (enc:=ao) hI hM LX LL rfl (fun _=>rfl) (fun _=>rfl),?_⟩;cbv
           refine⟨_,ak hI hM RS,?_⟩;cbv
           refine si h (fun h=>?_) fun h=>?_
           ·cbv
            refine ae h fun Tf LW h=>?_
            apply Exists.intro;refine⟨?_,_,rfl,?_⟩
            ·cbv
             refine⟨?_,trivial⟩
             refine⟨?_,trivial⟩
             refine⟨_,bJ (enc:=(aW M r)) (x:=(⟨qc.kind,qc.name,qc.num,[]⟩:aI)) hM ⟨rfl,rfl,rfl,(aH hM),trivial⟩ rfl,?_⟩;cbv
             refine⟨?_,trivial⟩
             refine⟨_,aw (enc:=(aW M r)) hI hM LW (fun _=>rfl) rfl (fun _=>rfl),?_⟩;cbv
             refine⟨?_,trivial⟩
             all_goals exact .inl rfl
            cbv
            refine letE h fun S1 Ag h=>⟨_,ak hI hM Ag,?_⟩;cbv
            cases h
            first|exact Or.inl rfl|exact bB
           cbv
           refine ae h fun u59 acL h=>?_
           refine ae h fun NV EW h=>?_
           apply Exists.intro;refine⟨?_,_,rfl,?_⟩
           ·cbv
            refine⟨?_,trivial⟩
            refine⟨?_,trivial⟩
            refine⟨_,bJ (enc:=(aW M r)) (x:=(⟨qc.kind,qc.name,qc.num,U8⟩:aI)) hM ⟨rfl,rfl,rfl,(dg hM acL),trivial⟩ rfl,?_⟩;cbv
            refine⟨?_,trivial⟩
            refine⟨_,aw (enc:=(aW M r)) hI hM EW (fun _=>rfl) rfl (fun _=>rfl),?_⟩;cbv
            refine⟨?_,trivial⟩
            all_goals exact .inl rfl
           cbv
           refine letE h fun W7 Hs h=>⟨_,ak hI hM Hs,?_⟩;cbv
           cases h
           first|exact Or.inl rfl|exact bB
          clear hj
          cbv
          refine⟨?_,trivial⟩
          refine⟨_,bJ (enc:=ao) (x:=j50) hM (ah _) rfl,?_⟩;cbv
          refine⟨?_,trivial⟩
          refine ae h fun Mn Du h=>⟨_,aw (enc:=ao) hI hM Du (fun _=>rfl) rfl (fun _=>rfl),?_⟩;cbv
          refine⟨?_,trivial⟩
          cases h
          first|exact Or.inl rfl|exact bB
         clear hj
         cbv
         exact bN (ox _ _ h)
       cbv
       refine ae h fun x66 amF h=>?_
       apply Exists.intro;refine⟨?_,_,rfl,?_⟩
       ·cbv
        refine⟨_,al hM amF rfl,?_⟩;cbv
        refine⟨?_,trivial⟩
        all_goals exact .inl rfl
       cbv
       refine ae h fun k67 WZ h=>?_
       (first|refine⟨_,⟨rfl,rfl,aK hI WZ⟩,?_⟩|refine⟨_,aK hI WZ,?_⟩)
       cbv
       refine ae h fun Vq Rv h=>⟨_,_,rfl,ba hM Rv,rfl,?_⟩;cbv
       refine ae h fun Va Pc h=>⟨_,bV hI hM Pc,?_⟩;cbv
       refine ae h fun Vp LD h=>?_
       refine ae h fun HM adu h=>?_
       refine ae h fun l72 ahV h=>?_
       apply Exists.intro;refine⟨?_,_,rfl,?_⟩
       ·cbv
        refine⟨_,_,_,⟨rfl,ba (enc:=(aq M r)) hM LD,rfl,rfl⟩,?_⟩;cbv
        refine⟨?_,trivial⟩
        refine⟨_,bJ (enc:=(az M r)) (x:=(⟨wQ.head,wQ.kids,JW,x66⟩:ag)) hM (ah _) rfl,?_⟩;cbv
        refine⟨?_,trivial⟩
        refine⟨_,aw (enc:=(az M r)) hI hM adu (fun _=>rfl) rfl (fun _=>rfl),?_⟩;cbv
        refine⟨?_,trivial⟩
        (first|refine⟨_,qQ (enc:=(aq M r)) hI hM LD ahV (show 2<3 from by decide) rfl,?_⟩|refine⟨rfl,rfl,rfl,_,qQ (enc:=(aq M r)) hI hM LD ahV (show 2<3 from by decide) rfl,?_⟩)
        cbv
        all_goals exact .inl rfl
       cbv
       try(refine⟨rfl,?_⟩;cbv)
       refine lK hI ?_;cbv
       exact bN (pW _ _ h)
     cbv
     exact bN (jE _ _ h)
   cbv
   try(refine⟨rfl,?_⟩;cbv)
   refine letE h fun U4 RQ h=>⟨_,RQ,?_⟩;cbv
   refine lp h (fun(HL,Qw)=>[(24,(vi Qw))]) (fun(HL,Qw)=>[(7,.box [(.gs r (.c 7 0) (M.map (aq M r) HL))])]) fun Vi m6 rp st h=>?_
   obtain⟨HL,Qw⟩:=st
   dsimp only[uM]at h
   cbv
   refine si h (fun h=>?_) fun h=>by cbv;cases h;exact fin
   cbv
   refine ae h fun k80 ann h=>⟨_,bV hI hM ann,?_⟩;cbv
   refine ae h fun x81 amC h=>⟨_,_,rfl,ba hM amC,rfl,?_⟩;cbv
   refine ae h fun k82 ahY h=>?_
   (first|refine⟨_,⟨rfl,rfl,aK hI ahY⟩,?_⟩|refine⟨_,aK hI ahY,?_⟩)
   cbv
   refine ae h fun x83 amA h=>⟨_,_,rfl,ba hM amA,rfl,?_⟩;cbv
   refine si h (fun h=>?_) fun h=>?_
   ·cbv
    refine⟨_,bJ (enc:=(aq M r)) (x:=x81) hM (ah _) rfl,?_⟩;cbv
    refine ae h fun zQ Sc h=>⟨_,aw (enc:=(aq M r)) hI hM Sc (fun _=>rfl) rfl (fun _=>rfl),?_⟩;cbv
    exact bN (rp _ _ h)
   cbv
   exact bN (rp _ _ h)
 cbv
 cases h
end Ab
