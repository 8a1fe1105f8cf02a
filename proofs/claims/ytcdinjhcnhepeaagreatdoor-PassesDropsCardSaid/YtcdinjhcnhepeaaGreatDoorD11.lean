/- PassesDrops holds of every core (no condition): a part of the proof: an abstract interpreter of the code that is proved sound, models of the functions, and laws of these models. -/
import Derived.Test.YtcdinjhcnhepeaaGreatDoorD02
import Derived.Test.YtcdinjhcnhepeaaGreatDoorD03
import Derived.Test.YtcdinjhcnhepeaaGreatDoorD04
set_option linter.unusedVariables false
set_option linter.unusedSimpArgs false
namespace Ab
open Go Go.Proofs.Tryz
set_option maxHeartbeats 100000000
set_option maxRecDepth 100000
variable{I:Pr}(hI:I=al){M:Md}(hM:M= .al){n nx r s p q u rl:Nat}{g:Nat→Option Ob}
 include hI hM
theorem mN{a0:ah}{v:ah×Int}(h:je I M n a0=some v):
  bO 10 [(.agg (ba M p a0))] (.fT [(.agg (ba M r v.1)),(vi v.2)]) g nx:=by
 refine yp func10 c10 r acp agu [5] 16 ntmps10 [.cell 2 24,.tmp 3] hI (bk.cons (qE r) (bk.cons (uj r) (bk.cons (uk r) (bk.cons (Yl r) (bk.cons (Ym r) (bk.cons (wY r) (tF PP fD))))))) 8 fun call hc=>?_
 cbv
 refine ab h fun y1 cN h=>⟨_,_,_,us hc (cT hI hM cN),?_⟩;cbv
 refine si h (fun h=>by cbv;cases h;exact fin) fun h=>?_
 cbv
 refine letE h fun n2 oQ h=>⟨_,ak hI hM oQ,?_⟩;cbv
 refine ic n (fun ju aS=>?_);cbv
 refine si h (fun h=>?_) fun h=>?_
 ·as_aux_lemma=>
   cbv
   refine ab h fun x3 iJ h=>⟨_,ai hM iJ rfl,?_⟩;cbv
   refine⟨_,Pa (by rfl),?_⟩;cbv
   refine ab h fun l4 Lq h=>⟨qm hI Lq,_,_,xV (enc:=(ao M r)) hI hM Lq (by have e0:=aE (enc:=(az M r)) hM;simp only[ao,vi,vs,vb,bY,dL,e0]),?_⟩;cbv
   refine aS _ (lpD h [50009] (fun(l5,z6)=>[(19,(vi z6)),(20,.any)]) (fun(l5,z6)=>[(50007,.box [(.ia (.s 50031) (M.ln l5))]),(50031,.ow (.sl 3) none (M.map (ao M r) l5))]) fun Bc m2 cI st h=>?_)
   obtain⟨l5,z6⟩:=st
   dsimp only[im]at h
   cbv
   refine si h (fun h=>?_) fun h=>?_
   ·cbv
    refine ab h fun x7 BA h=>⟨_,ai hM BA rfl,?_⟩;cbv
    refine⟨_,Pa (by rfl),?_⟩;cbv
    refine ab h fun l8 SO h=>?_
    (refine⟨_,_,DR (enc:=(ao M r)) hI hM SO ?_,?_⟩;next=>have e0:=aE (enc:=(az M r)) hM;simp only[ao,vi,vs,vb,bY,dL,e0])
    cbv
    exact bN (cI _ _ h)
   cbv
   intro l
   cbv
   refine letE h fun uU xU h=>⟨_,ak hI hM xU,?_⟩;cbv
   refine lp h (fun(iq,xi,ea)=>[(10,(vi ea))]) (fun(iq,xi,ea)=>[(5,.box [(.sl p (M.map cA iq))]),(50031,.ow (.sl 3) none (M.map (ao M r) xi))]) fun NJ m3 iI st h=>?_
   obtain⟨iq,xi,ea⟩:=st
   dsimp only[il]at h
   cbv
   refine si h (fun h=>?_) fun h=>?_
   ·as_aux_lemma=>
     cbv
     refine ab h fun yB Cd h=>⟨_,ai hM Cd rfl,?_⟩;cbv
     refine letE h fun DZ DJ h=>⟨_,ak hI hM DJ,?_⟩;cbv
     refine lp h (fun(tw,qQ,eh)=>[(18,(vi eh))]) (fun(tw,qQ,eh)=>[(5,.box [(.sl p (M.map cA tw))]),(50031,.ow (.sl 3) none (M.map (ao M r) qQ))]) fun Q5 m4 qC st h=>?_
     obtain⟨tw,qQ,eh⟩:=st
     dsimp only[ik]at h
     cbv
     refine si h (fun h=>?_) fun h=>?_
     ·as_aux_lemma=>
       cbv
       refine ab h fun dR DG h=>⟨_,ai hM DG rfl,?_⟩;cbv
       try(refine⟨⟨rfl,rfl,rfl⟩,?_⟩;cbv)
       refine letE h fun vQ HZ h=>⟨_,⟨rfl,iw (enc:=an) hI hM HZ rfl⟩,?_⟩;cbv
       refine ab h fun VY yV h=>?_
       (first|refine⟨_,⟨aT hI hM yV,rN (enc:=an) (l:=[ea,eh]) hI hM rfl⟩,?_⟩|refine⟨_,⟨rfl,aT hI hM yV,rfl,rfl,rN (enc:=an) (l:=[ea,eh]) hI hM rfl⟩,?_⟩)
       cbv
       try(refine⟨rfl,?_⟩;cbv)
       refine ab h fun Pv qU h=>?_
       (first|refine⟨⟨rfl,aT hI hM qU,rfl⟩,?_⟩|refine⟨⟨aT hI hM qU,trivial⟩,?_⟩|refine⟨aT hI hM qU,?_⟩)
       cbv
       try(refine⟨⟨by decide,by decide⟩,?_⟩;cbv)
       refine ab h fun XS MQ h=>?_
       (first|refine⟨_,⟨rfl,rfl,aM hI MQ⟩,?_⟩|refine⟨_,aM hI MQ,?_⟩)
       cbv
       refine ab h fun Ad Mq h=>⟨_,_,rfl,bc hM Mq,rfl,?_⟩;cbv
       refine ab h fun k26 aio h=>?_
       (first|refine⟨_,⟨rfl,rfl,aM hI aio⟩,?_⟩|refine⟨_,aM hI aio,?_⟩)
       cbv
       refine ab h fun rQ ac5 h=>⟨_,_,rfl,bc hM ac5,rfl,?_⟩;cbv
       refine ab h fun NS PN h=>⟨_,_,_,us hc (IE hI hM PN),?_⟩;cbv
       apply Exists.intro;refine⟨?_,_,rfl,?_⟩
       ·cbv
        refine⟨?_,?_⟩
        ·refine⟨?_,trivial⟩
         refine⟨?_,trivial⟩
         all_goals exact .inl rfl
        refine⟨?_,trivial⟩
        refine⟨?_,trivial⟩
        all_goals exact .inl rfl
       cbv
       refine letE h fun n29 am9 h=>⟨_,ak hI hM am9,?_⟩;cbv
       refine lp h (fun(E8,Fv,C7)=>[(56,(vi C7))]) (fun(E8,Fv,C7)=>[(12851015,.box [(vs dR.head),(vi dR.kids),(.gs r (.c 12851015 2) (M.map (aZ M r) E8)),(vi 0),(.gs r (.c 12851015 4) (M.map an Fv)),(.v .nilFunc)])]) fun Q4 m5 qB st h=>?_
       obtain⟨E8,Fv,C7⟩:=st
       dsimp only[ij]at h
       cbv
       refine si h (fun h=>?_) fun h=>?_
       ·as_aux_lemma=>
         cbv
         refine ab h fun FR amR h=>⟨_,ai hM amR rfl,?_⟩;cbv
         refine jV h fun j34 Kx hj h=>?_
         dsimp only at h
         refine aX none [(13,.any),(14,.any)] [(12851015,.box [(vs dR.head),(vi dR.kids),(.gs r (.c 12851015 2) (M.map (aZ M r) j34)),(vi 0),(.gs r (.c 12851015 4) (M.map an Kx)),(.v .nilFunc)])] g nx ?_ ?_
         ·replace h:=hj
          cbv
          refine⟨?_,?_⟩
          ·refine⟨?_,trivial⟩
           refine ab h fun Hc DF h=>⟨_,ai hM DF rfl,?_⟩;cbv
           refine si h (fun h=>?_) fun h=>?_
           ·cbv
            refine⟨?_,trivial⟩
            refine⟨_,bJ (enc:=an) (x:=0) hM (af _) rfl,?_⟩;cbv
            refine⟨?_,trivial⟩
            refine ab h fun l37 ad2 h=>⟨_,au (enc:=an) hI hM ad2 (fun _=>rfl) rfl (fun _=>rfl),?_⟩;cbv
            refine⟨?_,trivial⟩
            cases h
            first|exact Or.inl rfl|exact bB
           cbv
           refine jV h fun ud Ci hj h=>?_
           dsimp only at h
           refine aX none [(7,(vi ud)),(0,.any),(6,.any)] [(12851015,.box [(vs dR.head),(vi dR.kids),(.gs r (.c 12851015 2) (M.map (aZ M r) Ci)),(vi 0),(.gs r (.c 12851015 4) (M.map an Fv)),(.v .nilFunc)])] g nx ?_ ?_
           ·replace h:=hj
            cbv
            refine⟨?_,trivial⟩
            refine ab h fun B8 At h=>⟨fun _=>rfl,(.sl r (M.map an B8)),g,nx,fun ρ=>by cbv;exact us hc (aC hI hM At),?_⟩;cbv
            refine⟨?_,trivial⟩
            refine letE h fun n41 Sx h=>⟨_,ak hI hM Sx,?_⟩;cbv
            refine ab h fun Gu MI h=>⟨_,_,dw (enc:=an) hI hM MI (by decide) rfl,?_⟩;cbv
            refine letE h fun Lt MH h=>?_
            refine letE h fun n44 adB h=>⟨_,_,fZ (enc:=an) hI hM MH adB rfl (fun _=>rfl) (fun _=>rfl),?_⟩;cbv
            refine⟨_,ak hI hM Sx,?_⟩;cbv
            refine si h (fun h=>?_) fun h=>?_
            ·cbv
             refine ab h fun OB MG h=>?_
             apply Exists.intro;refine⟨?_,_,rfl,?_⟩
             ·cbv
              refine⟨?_,trivial⟩
              refine⟨?_,trivial⟩
              refine⟨_,bJ (enc:=(aZ M r)) (x:=(⟨FR.kind,FR.name,FR.num,[]⟩:aL)) hM ⟨rfl,rfl,rfl,(aE hM),trivial⟩ rfl,?_⟩;cbv
              refine⟨?_,trivial⟩
              refine⟨_,au (enc:=(aZ M r)) hI hM MG (fun _=>rfl) rfl (fun _=>rfl),?_⟩;cbv
              refine⟨?_,trivial⟩
              all_goals exact .inl rfl
             cbv
             refine letE h fun n46 Mx h=>⟨_,ak hI hM Mx,?_⟩;cbv
             cases h
             first|exact Or.inl rfl|exact bB
            cbv
            refine ab h fun u47 adh h=>?_
            refine ab h fun QR SU h=>?_
            apply Exists.intro;refine⟨?_,_,rfl,?_⟩
            ·cbv
             refine⟨?_,trivial⟩
             refine⟨?_,trivial⟩
             refine⟨_,bJ (enc:=(aZ M r)) (x:=(⟨FR.kind,FR.name,FR.num,Lt⟩:aL)) hM ⟨rfl,rfl,rfl,(cX hM adh),trivial⟩ rfl,?_⟩;cbv
             refine⟨?_,trivial⟩
             refine⟨_,au (enc:=(aZ M r)) hI hM SU (fun _=>rfl) rfl (fun _=>rfl),?_⟩;cbv
             refine⟨?_,trivial⟩
             all_goals exact .inl rfl
            cbv
            refine letE h fun TA Mw h=>⟨_,ak hI hM Mw,?_⟩;cbv
            cases h
            first|exact Or.inl rfl|exact bB
           clear hj
           cbv
           refine⟨?_,trivial⟩
           refine⟨_,bJ (enc:=an) (x:=ud) hM (af _) rfl,?_⟩;cbv
           refine⟨?_,trivial⟩
           refine ab h fun QQ PX h=>⟨_,au (enc:=an) hI hM PX (fun _=>rfl) rfl (fun _=>rfl),?_⟩;cbv
           refine⟨?_,trivial⟩
           cases h
           first|exact Or.inl rfl|exact bB
          refine⟨?_,trivial⟩
          refine ab h fun Hc DF h=>⟨_,ai hM DF rfl,?_⟩;cbv
          refine si h (fun h=>?_) fun h=>?_
          ·cbv
           refine⟨?_,trivial⟩
           refine⟨_,bJ (enc:=an) (x:=0) hM (af _) rfl,?_⟩;cbv
           refine⟨?_,trivial⟩
           refine ab h fun l37 ad2 h=>⟨_,au (enc:=an) hI hM ad2 (fun _=>rfl) rfl (fun _=>rfl),?_⟩;cbv
           refine⟨?_,trivial⟩
           cases h
           first|exact Or.inl rfl|exact bB
          cbv
          refine jV h fun ud Ci hj h=>?_
          dsimp only at h
          refine aX none [(7,(vi ud)),(0,.any),(6,.any)] [(12851015,.box [(vs dR.head),(vi dR.kids),(.gs r (.c 12851015 2) (M.map (aZ M r) Ci)),(vi 0),(.gs r (.c 12851015 4) (M.map an Fv)),(.v .nilFunc)])] g nx ?_ ?_
          ·replace h:=hj
           cbv
           refine⟨?_,trivial⟩
           refine ab h fun B8 At h=>⟨fun _=>rfl,(.sl r (M.map an B8)),g,nx,fun ρ=>by cbv;exact us hc (aC hI hM At),?_⟩;cbv
           refine⟨?_,trivial⟩
           refine letE h fun n41 Sx h=>⟨_,ak hI hM Sx,?_⟩;cbv
           refine ab h fun Gu MI h=>⟨_,_,dw (enc:=an) hI hM MI (by decide) rfl,?_⟩;cbv
           refine letE h fun Lt MH h=>?_
           refine letE h fun n44 adB h=>⟨_,_,fZ (enc:=an) hI hM MH adB rfl (fun _=>rfl) (fun _=>rfl),?_⟩;cbv
           refine⟨_,ak hI hM Sx,?_⟩;cbv
           refine si h (fun h=>?_) fun h=>?_
           ·cbv
            refine ab h fun OB MG h=>?_
            apply Exists.intro;refine⟨?_,_,rfl,?_⟩
            ·cbv
             refine⟨?_,trivial⟩
             refine⟨?_,trivial⟩
             refine⟨_,bJ (enc:=(aZ M r)) (x:=(⟨FR.kind,FR.name,FR.num,[]⟩:aL)) hM ⟨rfl,rfl,rfl,(aE hM),trivial⟩ rfl,?_⟩;cbv
             refine⟨?_,trivial⟩
             refine⟨_,au (enc:=(aZ M r)) hI hM MG (fun _=>rfl) rfl (fun _=>rfl),?_⟩;cbv
             refine⟨?_,trivial⟩
             all_goals exact .inl rfl
            cbv
            refine letE h fun n46 Mx h=>⟨_,ak hI hM Mx,?_⟩;cbv
            cases h
            first|exact Or.inl rfl|exact bB
           cbv
           refine ab h fun u47 adh h=>?_
           refine ab h fun QR SU h=>?_
           apply Exists.intro;refine⟨?_,_,rfl,?_⟩
           ·cbv
            refine⟨?_,trivial⟩
            refine⟨?_,trivial⟩
            refine⟨_,bJ (enc:=(aZ M r)) (x:=(⟨FR.kind,FR.name,FR.num,Lt⟩:aL)) hM ⟨rfl,rfl,rfl,(cX hM adh),trivial⟩ rfl,?_⟩;cbv
            refine⟨?_,trivial⟩
            refine⟨_,au (enc:=(aZ M r)) hI hM SU (fun _=>rfl) rfl (fun _=>rfl),?_⟩;cbv
            refine⟨?_,trivial⟩
            all_goals exact .inl rfl
           cbv
           refine letE h fun TA Mw h=>⟨_,ak hI hM Mw,?_⟩;cbv
           cases h
           first|exact Or.inl rfl|exact bB
          clear hj
          cbv
          refine⟨?_,trivial⟩
          refine⟨_,bJ (enc:=an) (x:=ud) hM (af _) rfl,?_⟩;cbv
          refine⟨?_,trivial⟩
          refine ab h fun QQ PX h=>⟨_,au (enc:=an) hI hM PX (fun _=>rfl) rfl (fun _=>rfl),?_⟩;cbv
          refine⟨?_,trivial⟩
          cases h
          first|exact Or.inl rfl|exact bB
         clear hj
         cbv
         exact bN (qB _ _ h)
       cbv
       refine ab h fun x54 amM h=>?_
       apply Exists.intro;refine⟨?_,_,rfl,?_⟩
       ·cbv
        refine⟨_,ai hM amM rfl,?_⟩;cbv
        refine⟨?_,trivial⟩
        all_goals exact .inl rfl
       cbv
       refine ab h fun k55 Xp h=>?_
       (first|refine⟨_,⟨rfl,rfl,aM hI Xp⟩,?_⟩|refine⟨_,aM hI Xp,?_⟩)
       cbv
       refine ab h fun x56 acZ h=>⟨_,_,rfl,bc hM acZ,rfl,?_⟩;cbv
       refine ab h fun TY H0 h=>⟨_,bS hI hM H0,?_⟩;cbv
       refine ab h fun Vr HN h=>?_
       refine ab h fun Ks DM h=>?_
       refine ab h fun Oz Fo h=>?_
       apply Exists.intro;refine⟨?_,_,rfl,?_⟩
       ·cbv
        refine⟨_,_,_,⟨rfl,bc (enc:=(ao M r)) hM HN,rfl,rfl⟩,?_⟩;cbv
        refine⟨?_,trivial⟩
        refine⟨_,bJ (enc:=(az M r)) (x:=(⟨dR.head,dR.kids,E8,x54⟩:ae)) hM (af _) rfl,?_⟩;cbv
        refine⟨?_,trivial⟩
        refine⟨_,au (enc:=(az M r)) hI hM DM (fun _=>rfl) rfl (fun _=>rfl),?_⟩;cbv
        refine⟨?_,trivial⟩
        (first|refine⟨_,rO (enc:=(ao M r)) hI hM HN Fo (show 2<3 from by decide) rfl,?_⟩|refine⟨rfl,rfl,rfl,_,rO (enc:=(ao M r)) hI hM HN Fo (show 2<3 from by decide) rfl,?_⟩)
        cbv
        all_goals exact .inl rfl
       cbv
       try(refine⟨rfl,?_⟩;cbv)
       refine lZ hI ?_;cbv
       exact bN (qC _ _ h)
     cbv
     exact bN (iI _ _ h)
   cbv
   try(refine⟨rfl,?_⟩;cbv)
   refine ab h fun u67 amZ h=>?_
   obtain rfl:=Option.some.inj h
   cbv
   all_goals(repeat' apply And.intro)
   all_goals first|trivial|rfl|exact(aE hM)|exact(cX hM amZ)
 cbv
 cases h
end Ab
