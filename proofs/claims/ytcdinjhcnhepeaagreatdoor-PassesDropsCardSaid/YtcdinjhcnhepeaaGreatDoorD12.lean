/- PassesDrops holds of every core (no condition): a part of the proof: an abstract interpreter of the code that is proved sound, models of the functions, and laws of these models. -/
import Derived.Test.YtcdinjhcnhepeaaGreatDoorD02
import Derived.Test.YtcdinjhcnhepeaaGreatDoorD03
import Derived.Test.YtcdinjhcnhepeaaGreatDoorD04
set_option linter.unusedVariables false
set_option linter.unusedSimpArgs false
namespace Ab
open Go Go.Proofs.Tryz
set_option maxHeartbeats 100000000
set_option maxRecDepth 100000
variable{I:Pr}(hI:I=al){M:Md}(hM:M= .al){n nx r s p q u rl:Nat}{g:Nat→Option Ob}
 include hI hM
theorem Ct{a0:ah}{v:ah×Int}(h:yX I M n a0=some v):
  bO 30 [(.agg (ba M r a0))] (.fT [(.agg (ba M r v.1)),(vi v.2)]) g nx:=by
 refine yp func30 c30 r ace agk [5] 42 ntmps30 [.cell 2 24,.tmp 3] hI (bk.cons (qE r) (bk.cons (uj r) (bk.cons (Ye r) (bk.cons (OW r) (bk.cons (uk r) (bk.cons (wY r) (tF PP fD))))))) 8 fun call hc=>?_
 cbv
 refine ab h fun y1 cN h=>⟨_,_,_,us hc (cT hI hM cN),?_⟩;cbv
 refine si h (fun h=>by cbv;cases h;exact fin) fun h=>?_
 cbv
 refine ab h fun y2 rT h=>⟨_,_,_,us hc (rI hI hM rT),?_⟩;cbv
 refine letE h fun l3 Og h=>⟨_,⟨rfl,iw (enc:=an) hI hM Og rfl⟩,?_⟩;cbv
 refine ab h fun u4 qu4 h=>?_
 (first|refine⟨⟨rfl,rfl,rfl,aT hI hM qu4,rfl,(by have hq:=dz (enc:=an) hM (fun _=>rfl) y2;rw[dU.eq_def]at hq;exact hq)⟩,?_⟩|refine⟨⟨aT hI hM qu4,(by have hq:=dz (enc:=an) hM (fun _=>rfl) y2;rw[dU.eq_def]at hq;exact hq)⟩,?_⟩)
 cbv
 refine letE h fun n5 Xm h=>⟨_,ak hI hM Xm,?_⟩;cbv
 refine ic n (fun ju aS=>?_);cbv
 refine si h (fun h=>?_) fun h=>?_
 ·as_aux_lemma=>
   cbv
   refine ab h fun x6 wP h=>⟨_,ai hM wP rfl,?_⟩;cbv
   refine⟨_,Pa (by rfl),?_⟩;cbv
   refine ab h fun l7 ql7 h=>⟨qm hI ql7,_,_,xV (enc:=(ao M r)) hI hM ql7 (by have e0:=aE (enc:=(az M r)) hM;simp only[ao,vi,vs,vb,bY,dL,e0]),?_⟩;cbv
   refine aS _ (lpD h [50009] (fun(l8,z9)=>[(19,(vi z9)),(20,.any)]) (fun(l8,z9)=>[(50007,.box [(.ia (.s 50031) (M.ln l8))]),(50031,.ow (.sl 3) none (M.map (ao M r) l8))]) fun Bc m2 cI st h=>?_)
   obtain⟨l8,z9⟩:=st
   dsimp only[vG]at h
   cbv
   refine si h (fun h=>?_) fun h=>?_
   ·cbv
    refine ab h fun yC xS h=>⟨_,ai hM xS rfl,?_⟩;cbv
    refine⟨_,Pa (by rfl),?_⟩;cbv
    refine ab h fun I2 MN h=>?_
    (refine⟨_,_,DR (enc:=(ao M r)) hI hM MN ?_,?_⟩;next=>have e0:=aE (enc:=(az M r)) hM;simp only[ao,vi,vs,vb,bY,dL,e0])
    cbv
    exact bN (cI _ _ h)
   cbv
   intro l
   cbv
   refine letE h fun Kg MB h=>⟨_,ak hI hM MB,?_⟩;cbv
   refine lp h (fun(xh,jW)=>[(10,(vi jW))]) (fun(xh,jW)=>[(50031,.ow (.sl 3) none (M.map (ao M r) xh))]) fun NJ m3 iI st h=>?_
   obtain⟨xh,jW⟩:=st
   dsimp only[vF]at h
   cbv
   refine si h (fun h=>?_) fun h=>?_
   ·as_aux_lemma=>
     cbv
     refine ab h fun qS Aw h=>⟨_,ai hM Aw rfl,?_⟩;cbv
     refine letE h fun QO SA h=>⟨_,ak hI hM SA,?_⟩;cbv
     refine lp h (fun(Il,Bf)=>[(18,(vi Bf))]) (fun(Il,Bf)=>[(50031,.ow (.sl 3) none (M.map (ao M r) Il))]) fun Q5 m4 qC st h=>?_
     obtain⟨Il,Bf⟩:=st
     dsimp only[vE]at h
     cbv
     refine si h (fun h=>?_) fun h=>?_
     ·as_aux_lemma=>
       cbv
       refine ab h fun wJ Sb h=>⟨_,ai hM Sb rfl,?_⟩;cbv
       try(refine⟨⟨rfl,rfl,rfl⟩,?_⟩;cbv)
       refine letE h fun QT ano h=>⟨_,⟨rfl,iw (enc:=an) hI hM ano rfl⟩,?_⟩;cbv
       refine ab h fun Pv qU h=>?_
       (first|refine⟨_,⟨aT hI hM qU,rN (enc:=an) (l:=[jW,Bf]) hI hM rfl⟩,?_⟩|refine⟨_,⟨rfl,aT hI hM qU,rfl,rfl,rN (enc:=an) (l:=[jW,Bf]) hI hM rfl⟩,?_⟩)
       cbv
       try(refine⟨rfl,?_⟩;cbv)
       refine ab h fun u24 xT h=>?_
       (first|refine⟨⟨rfl,aT hI hM xT,rfl⟩,?_⟩|refine⟨⟨aT hI hM xT,trivial⟩,?_⟩|refine⟨aT hI hM xT,?_⟩)
       cbv
       try(refine⟨⟨by decide,by decide⟩,?_⟩;cbv)
       apply Exists.intro;refine⟨?_,_,rfl,?_⟩
       ·cbv
        refine⟨?_,?_⟩
        ·refine⟨?_,trivial⟩
         refine⟨?_,trivial⟩
         all_goals exact .inl rfl
        refine⟨?_,trivial⟩
        refine⟨?_,trivial⟩
        all_goals exact .inl rfl
       cbv
       refine letE h fun n25 anc h=>⟨_,ak hI hM anc,?_⟩;cbv
       refine lp h (fun(Ik,py,IZ)=>[(56,(vi IZ))]) (fun(Ik,py,IZ)=>[(12887004,.box [(vs wJ.head),(vi wJ.kids),(.gs r (.c 12887004 2) (M.map (aZ M r) Ik)),(vi 0),(.gs r (.c 12887004 4) (M.map an py)),(.v .nilFunc)])]) fun Q4 m5 qB st h=>?_
       obtain⟨Ik,py,IZ⟩:=st
       dsimp only[vD]at h
       cbv
       refine si h (fun h=>?_) fun h=>?_
       ·as_aux_lemma=>
         cbv
         refine ab h fun pM Mp h=>⟨_,ai hM Mp rfl,?_⟩;cbv
         refine jV h fun j30 T0 hj h=>?_
         dsimp only at h
         refine aX none [(13,.any),(14,.any)] [(12887004,.box [(vs wJ.head),(vi wJ.kids),(.gs r (.c 12887004 2) (M.map (aZ M r) j30)),(vi 0),(.gs r (.c 12887004 4) (M.map an T0)),(.v .nilFunc)])] g nx ?_ ?_
         ·replace h:=hj
          cbv
          refine⟨?_,?_⟩
          ·refine⟨?_,trivial⟩
           refine ab h fun Rb HI h=>⟨_,_,_,us hc (cZ hI hM HI),?_⟩;cbv
           refine si h (fun h=>?_) fun h=>?_
           ·as_aux_lemma=>
             cbv
             refine ab h fun uZ Au h=>⟨_,_,_,us hc (mO hI hM Au),?_⟩;cbv
             refine ab h fun k34 Tf h=>?_
             refine ab h fun oP Av h=>?_
             refine ab h fun Hc DF h=>?_
             apply Exists.intro;refine⟨?_,_,rfl,?_⟩
             ·cbv
              (first|refine⟨_,⟨rfl,rfl,aM hI Tf⟩,?_⟩|refine⟨_,aM hI Tf,?_⟩)
              cbv
              refine⟨_,_,rfl,bc hM Av,rfl,?_⟩;cbv
              refine⟨_,ai hM DF rfl,?_⟩;cbv
              refine⟨?_,trivial⟩
              all_goals exact .inl rfl
             cbv
             refine jV h fun Fw ud hj h=>?_
             dsimp only at h
             refine aX none [(8,(vi Fw)),(0,.any),(7,.any)] [(12887004,.box [(vs wJ.head),(vi wJ.kids),(.gs r (.c 12887004 2) (M.map (aZ M r) ud)),(vi 0),(.gs r (.c 12887004 4) (M.map an py)),(.v .nilFunc)])] g nx ?_ ?_
             ·replace h:=hj
              cbv
              refine⟨?_,trivial⟩
              refine ab h fun NR Mi h=>⟨fun _=>rfl,(.sl r (M.map an NR)),g,nx,fun ρ=>by cbv;exact us hc (aC hI hM Mi),?_⟩;cbv
              refine⟨?_,trivial⟩
              refine letE h fun n40 Sy h=>⟨_,ak hI hM Sy,?_⟩;cbv
              refine ab h fun QS MJ h=>⟨_,_,dw (enc:=an) hI hM MJ (by decide) rfl,?_⟩;cbv
              refine letE h fun Gu MI h=>?_
              refine letE h fun n43 HU h=>⟨_,_,fZ (enc:=an) hI hM MI HU rfl (fun _=>rfl) (fun _=>rfl),?_⟩;cbv
              refine⟨_,ak hI hM Sy,?_⟩;cbv
              refine si h (fun h=>?_) fun h=>?_
              ·cbv
               refine ab h fun Fu Az h=>?_
               apply Exists.intro;refine⟨?_,_,rfl,?_⟩
               ·cbv
                refine⟨?_,trivial⟩
                refine⟨?_,trivial⟩
                refine⟨_,bJ (enc:=(aZ M r)) (x:=(⟨pM.kind,Hc.name,pM.num,[]⟩:aL)) hM ⟨rfl,rfl,rfl,(aE hM),trivial⟩ rfl,?_⟩;cbv
                refine⟨?_,trivial⟩
                refine⟨_,au (enc:=(aZ M r)) hI hM Az (fun _=>rfl) rfl (fun _=>rfl),?_⟩;cbv
                refine⟨?_,trivial⟩
                all_goals exact .inl rfl
               cbv
               refine letE h fun MY Ay h=>⟨_,ak hI hM Ay,?_⟩;cbv
               cases h
               first|exact Or.inl rfl|exact bB
              cbv
              refine ab h fun u46 adi h=>?_
              refine ab h fun P6 MF h=>?_
              apply Exists.intro;refine⟨?_,_,rfl,?_⟩
              ·cbv
               refine⟨?_,trivial⟩
               refine⟨?_,trivial⟩
               refine⟨_,bJ (enc:=(aZ M r)) (x:=(⟨pM.kind,Hc.name,pM.num,Gu⟩:aL)) hM ⟨rfl,rfl,rfl,(cX hM adi),trivial⟩ rfl,?_⟩;cbv
               refine⟨?_,trivial⟩
               refine⟨_,au (enc:=(aZ M r)) hI hM MF (fun _=>rfl) rfl (fun _=>rfl),?_⟩;cbv
               refine⟨?_,trivial⟩
               all_goals exact .inl rfl
              cbv
              refine letE h fun Lr DI h=>⟨_,ak hI hM DI,?_⟩;cbv
              cases h
              first|exact Or.inl rfl|exact bB
             clear hj
             cbv
             refine⟨?_,trivial⟩
             refine⟨_,bJ (enc:=an) (x:=Fw) hM (af _) rfl,?_⟩;cbv
             refine⟨?_,trivial⟩
             refine ab h fun TS HY h=>⟨_,au (enc:=an) hI hM HY (fun _=>rfl) rfl (fun _=>rfl),?_⟩;cbv
             refine⟨?_,trivial⟩
             cases h
             first|exact Or.inl rfl|exact bB
           cbv
           refine jV h fun j50 j51 hj h=>?_
           dsimp only at h
           refine aX none [(8,(vi j50)),(0,.any),(7,.any)] [(12887004,.box [(vs wJ.head),(vi wJ.kids),(.gs r (.c 12887004 2) (M.map (aZ M r) j51)),(vi 0),(.gs r (.c 12887004 4) (M.map an py)),(.v .nilFunc)])] g nx ?_ ?_
           ·replace h:=hj
            cbv
            refine⟨?_,trivial⟩
            refine ab h fun Ja JN h=>⟨fun _=>rfl,(.sl r (M.map an Ja)),g,nx,fun ρ=>by cbv;exact us hc (aC hI hM JN),?_⟩;cbv
            refine⟨?_,trivial⟩
            refine letE h fun n53 Sv h=>⟨_,ak hI hM Sv,?_⟩;cbv
            refine ab h fun OA ME h=>⟨_,_,dw (enc:=an) hI hM ME (by decide) rfl,?_⟩;cbv
            refine letE h fun QP MD h=>?_
            refine letE h fun n56 Mu h=>⟨_,_,fZ (enc:=an) hI hM MD Mu rfl (fun _=>rfl) (fun _=>rfl),?_⟩;cbv
            refine⟨_,ak hI hM Sv,?_⟩;cbv
            refine si h (fun h=>?_) fun h=>?_
            ·cbv
             refine ab h fun TR MC h=>?_
             apply Exists.intro;refine⟨?_,_,rfl,?_⟩
             ·cbv
              refine⟨?_,trivial⟩
              refine⟨?_,trivial⟩
              refine⟨_,bJ (enc:=(aZ M r)) (x:=(⟨pM.kind,pM.name,pM.num,[]⟩:aL)) hM ⟨rfl,rfl,rfl,(aE hM),trivial⟩ rfl,?_⟩;cbv
              refine⟨?_,trivial⟩
              refine⟨_,au (enc:=(aZ M r)) hI hM MC (fun _=>rfl) rfl (fun _=>rfl),?_⟩;cbv
              refine⟨?_,trivial⟩
              all_goals exact .inl rfl
             cbv
             refine letE h fun Tz Ax h=>⟨_,ak hI hM Ax,?_⟩;cbv
             cases h
             first|exact Or.inl rfl|exact bB
            cbv
            refine ab h fun u59 ade h=>?_
            refine ab h fun Oz Fo h=>?_
            apply Exists.intro;refine⟨?_,_,rfl,?_⟩
            ·cbv
             refine⟨?_,trivial⟩
             refine⟨?_,trivial⟩
             refine⟨_,bJ (enc:=(aZ M r)) (x:=(⟨pM.kind,pM.name,pM.num,QP⟩:aL)) hM ⟨rfl,rfl,rfl,(cX hM ade),trivial⟩ rfl,?_⟩;cbv
             refine⟨?_,trivial⟩
             refine⟨_,au (enc:=(aZ M r)) hI hM Fo (fun _=>rfl) rfl (fun _=>rfl),?_⟩;cbv
             refine⟨?_,trivial⟩
             all_goals exact .inl rfl
            cbv
            refine letE h fun Xw HT h=>⟨_,ak hI hM HT,?_⟩;cbv
            cases h
            first|exact Or.inl rfl|exact bB
           clear hj
           cbv
           refine⟨?_,trivial⟩
           refine⟨_,bJ (enc:=an) (x:=j50) hM (af _) rfl,?_⟩;cbv
           refine⟨?_,trivial⟩
           refine ab h fun M8 DL h=>⟨_,au (enc:=an) hI hM DL (fun _=>rfl) rfl (fun _=>rfl),?_⟩;cbv
           refine⟨?_,trivial⟩
           cases h
           first|exact Or.inl rfl|exact bB
          refine⟨?_,trivial⟩
          refine ab h fun Rb HI h=>⟨_,_,_,us hc (cZ hI hM HI),?_⟩;cbv
          refine si h (fun h=>?_) fun h=>?_
          ·as_aux_lemma=>
            cbv
            refine ab h fun uZ Au h=>⟨_,_,_,us hc (mO hI hM Au),?_⟩;cbv
            refine ab h fun k34 Tf h=>?_
            refine ab h fun oP Av h=>?_
            refine ab h fun Hc DF h=>?_
            apply Exists.intro;refine⟨?_,_,rfl,?_⟩
            ·cbv
             (first|refine⟨_,⟨rfl,rfl,aM hI Tf⟩,?_⟩|refine⟨_,aM hI Tf,?_⟩)
             cbv
             refine⟨_,_,rfl,bc hM Av,rfl,?_⟩;cbv
             refine⟨_,ai hM DF rfl,?_⟩;cbv
             refine⟨?_,trivial⟩
             all_goals exact .inl rfl
            cbv
            refine jV h fun Fw ud hj h=>?_
            dsimp only at h
            refine aX none [(8,(vi Fw)),(0,.any),(7,.any)] [(12887004,.box [(vs wJ.head),(vi wJ.kids),(.gs r (.c 12887004 2) (M.map (aZ M r) ud)),(vi 0),(.gs r (.c 12887004 4) (M.map an py)),(.v .nilFunc)])] g nx ?_ ?_
            ·replace h:=hj
             cbv
             refine⟨?_,trivial⟩
             refine ab h fun NR Mi h=>⟨fun _=>rfl,(.sl r (M.map an NR)),g,nx,fun ρ=>by cbv;exact us hc (aC hI hM Mi),?_⟩;cbv
             refine⟨?_,trivial⟩
             refine letE h fun n40 Sy h=>⟨_,ak hI hM Sy,?_⟩;cbv
             refine ab h fun QS MJ h=>⟨_,_,dw (enc:=an) hI hM MJ (by decide) rfl,?_⟩;cbv
             refine letE h fun Gu MI h=>?_
             refine letE h fun n43 HU h=>⟨_,_,fZ (enc:=an) hI hM MI HU rfl (fun _=>rfl) (fun _=>rfl),?_⟩;cbv
             refine⟨_,ak hI hM Sy,?_⟩;cbv
             refine si h (fun h=>?_) fun h=>?_
             ·cbv
              refine ab h fun Fu Az h=>?_
              apply Exists.intro;refine⟨?_,_,rfl,?_⟩
              ·cbv
               refine⟨?_,trivial⟩
               refine⟨?_,trivial⟩
               refine⟨_,bJ (enc:=(aZ M r)) (x:=(⟨pM.kind,Hc.name,pM.num,[]⟩:aL)) hM ⟨rfl,rfl,rfl,(aE hM),trivial⟩ rfl,?_⟩;cbv
               refine⟨?_,trivial⟩
               refine⟨_,au (enc:=(aZ M r)) hI hM Az (fun _=>rfl) rfl (fun _=>rfl),?_⟩;cbv
               refine⟨?_,trivial⟩
               all_goals exact .inl rfl
              cbv
              refine letE h fun MY Ay h=>⟨_,ak hI hM Ay,?_⟩;cbv
              cases h
              first|exact Or.inl rfl|exact bB
             cbv
             refine ab h fun u46 adi h=>?_
             refine ab h fun P6 MF h=>?_
             apply Exists.intro;refine⟨?_,_,rfl,?_⟩
             ·cbv
              refine⟨?_,trivial⟩
              refine⟨?_,trivial⟩
              refine⟨_,bJ (enc:=(aZ M r)) (x:=(⟨pM.kind,Hc.name,pM.num,Gu⟩:aL)) hM ⟨rfl,rfl,rfl,(cX hM adi),trivial⟩ rfl,?_⟩;cbv
              refine⟨?_,trivial⟩
              refine⟨_,au (enc:=(aZ M r)) hI hM MF (fun _=>rfl) rfl (fun _=>rfl),?_⟩;cbv
              refine⟨?_,trivial⟩
              all_goals exact .inl rfl
             cbv
             refine letE h fun Lr DI h=>⟨_,ak hI hM DI,?_⟩;cbv
             cases h
             first|exact Or.inl rfl|exact bB
            clear hj
            cbv
            refine⟨?_,trivial⟩
            refine⟨_,bJ (enc:=an) (x:=Fw) hM (af _) rfl,?_⟩;cbv
            refine⟨?_,trivial⟩
            refine ab h fun TS HY h=>⟨_,au (enc:=an) hI hM HY (fun _=>rfl) rfl (fun _=>rfl),?_⟩;cbv
            refine⟨?_,trivial⟩
            cases h
            first|exact Or.inl rfl|exact bB
          cbv
          refine jV h fun j50 j51 hj h=>?_
          dsimp only at h
          refine aX none [(8,(vi j50)),(0,.any),(7,.any)] [(12887004,.box [(vs wJ.head),(vi wJ.kids),(.gs r (.c 12887004 2) (M.map (aZ M r) j51)),(vi 0),(.gs r (.c 12887004 4) (M.map an py)),(.v .nilFunc)])] g nx ?_ ?_
          ·replace h:=hj
           cbv
           refine⟨?_,trivial⟩
           refine ab h fun Ja JN h=>⟨fun _=>rfl,(.sl r (M.map an Ja)),g,nx,fun ρ=>by cbv;exact us hc (aC hI hM JN),?_⟩;cbv
           refine⟨?_,trivial⟩
           refine letE h fun n53 Sv h=>⟨_,ak hI hM Sv,?_⟩;cbv
           refine ab h fun OA ME h=>⟨_,_,dw (enc:=an) hI hM ME (by decide) rfl,?_⟩;cbv
           refine letE h fun QP MD h=>?_
           refine letE h fun n56 Mu h=>⟨_,_,fZ (enc:=an) hI hM MD Mu rfl (fun _=>rfl) (fun _=>rfl),?_⟩;cbv
           refine⟨_,ak hI hM Sv,?_⟩;cbv
           refine si h (fun h=>?_) fun h=>?_
           ·cbv
            refine ab h fun TR MC h=>?_
            apply Exists.intro;refine⟨?_,_,rfl,?_⟩
            ·cbv
             refine⟨?_,trivial⟩
             refine⟨?_,trivial⟩
             refine⟨_,bJ (enc:=(aZ M r)) (x:=(⟨pM.kind,pM.name,pM.num,[]⟩:aL)) hM ⟨rfl,rfl,rfl,(aE hM),trivial⟩ rfl,?_⟩;cbv
             refine⟨?_,trivial⟩
             refine⟨_,au (enc:=(aZ M r)) hI hM MC (fun _=>rfl) rfl (fun _=>rfl),?_⟩;cbv
             refine⟨?_,trivial⟩
             all_goals exact .inl rfl
            cbv
            refine letE h fun Tz Ax h=>⟨_,ak hI hM Ax,?_⟩;cbv
            cases h
            first|exact Or.inl rfl|exact bB
           cbv
           refine ab h fun u59 ade h=>?_
           refine ab h fun Oz Fo h=>?_
           apply Exists.intro;refine⟨?_,_,rfl,?_⟩
           ·cbv
            refine⟨?_,trivial⟩
            refine⟨?_,trivial⟩
            refine⟨_,bJ (enc:=(aZ M r)) (x:=(⟨pM.kind,pM.name,pM.num,QP⟩:aL)) hM ⟨rfl,rfl,rfl,(cX hM ade),trivial⟩ rfl,?_⟩;cbv
            refine⟨?_,trivial⟩
            refine⟨_,au (enc:=(aZ M r)) hI hM Fo (fun _=>rfl) rfl (fun _=>rfl),?_⟩;cbv
            refine⟨?_,trivial⟩
            all_goals exact .inl rfl
           cbv
           refine letE h fun Xw HT h=>⟨_,ak hI hM HT,?_⟩;cbv
           cases h
           first|exact Or.inl rfl|exact bB
          clear hj
          cbv
          refine⟨?_,trivial⟩
          refine⟨_,bJ (enc:=an) (x:=j50) hM (af _) rfl,?_⟩;cbv
          refine⟨?_,trivial⟩
          refine ab h fun M8 DL h=>⟨_,au (enc:=an) hI hM DL (fun _=>rfl) rfl (fun _=>rfl),?_⟩;cbv
          refine⟨?_,trivial⟩
          cases h
          first|exact Or.inl rfl|exact bB
         clear hj
         cbv
         exact bN (qB _ _ h)
       cbv
       refine ab h fun x66 amK h=>?_
       apply Exists.intro;refine⟨?_,_,rfl,?_⟩
       ·cbv
        refine⟨_,ai hM amK rfl,?_⟩;cbv
        refine⟨?_,trivial⟩
        all_goals exact .inl rfl
       cbv
       refine ab h fun k67 Xo h=>?_
       (first|refine⟨_,⟨rfl,rfl,aM hI Xo⟩,?_⟩|refine⟨_,aM hI Xo,?_⟩)
       cbv
       refine ab h fun VT R6 h=>⟨_,_,rfl,bc hM R6,rfl,?_⟩;cbv
       refine ab h fun Vy PY h=>⟨_,bS hI hM PY,?_⟩;cbv
       refine ab h fun VS Mn h=>?_
       refine ab h fun Ii adW h=>?_
       refine ab h fun l72 aih h=>?_
       apply Exists.intro;refine⟨?_,_,rfl,?_⟩
       ·cbv
        refine⟨_,_,_,⟨rfl,bc (enc:=(ao M r)) hM Mn,rfl,rfl⟩,?_⟩;cbv
        refine⟨?_,trivial⟩
        refine⟨_,bJ (enc:=(az M r)) (x:=(⟨wJ.head,wJ.kids,Ik,x66⟩:ae)) hM (af _) rfl,?_⟩;cbv
        refine⟨?_,trivial⟩
        refine⟨_,au (enc:=(az M r)) hI hM adW (fun _=>rfl) rfl (fun _=>rfl),?_⟩;cbv
        refine⟨?_,trivial⟩
        (first|refine⟨_,rO (enc:=(ao M r)) hI hM Mn aih (show 2<3 from by decide) rfl,?_⟩|refine⟨rfl,rfl,rfl,_,rO (enc:=(ao M r)) hI hM Mn aih (show 2<3 from by decide) rfl,?_⟩)
        cbv
        all_goals exact .inl rfl
       cbv
       try(refine⟨rfl,?_⟩;cbv)
       refine lZ hI ?_;cbv
       exact bN (qC _ _ h)
     cbv
     exact bN (iI _ _ h)
   cbv
   try(refine⟨rfl,?_⟩;cbv)
   refine letE h fun Vv Ss h=>⟨_,Ss,?_⟩;cbv
   refine lp h (fun(Ih,Q8)=>[(24,(vi Q8))]) (fun(Ih,Q8)=>[(7,.box [(.gs r (.c 7 0) (M.map (ao M r) Ih))])]) fun VL m6 qA st h=>?_
   obtain⟨Ih,Q8⟩:=st
   dsimp only[vC]at h
   cbv
   refine si h (fun h=>?_) fun h=>by cbv;cases h;exact fin
   cbv
   refine ab h fun k80 ans h=>⟨_,bS hI hM ans,?_⟩;cbv
   refine ab h fun x81 amH h=>⟨_,_,rfl,bc hM amH,rfl,?_⟩;cbv
   refine ab h fun k82 aik h=>?_
   (first|refine⟨_,⟨rfl,rfl,aM hI aik⟩,?_⟩|refine⟨_,aM hI aik,?_⟩)
   cbv
   refine ab h fun x83 amF h=>⟨_,_,rfl,bc hM amF,rfl,?_⟩;cbv
   refine si h (fun h=>?_) fun h=>?_
   ·cbv
    refine⟨_,bJ (enc:=(ao M r)) (x:=x81) hM (af _) rfl,?_⟩;cbv
    refine ab h fun BK SN h=>⟨_,au (enc:=(ao M r)) hI hM SN (fun _=>rfl) rfl (fun _=>rfl),?_⟩;cbv
    exact bN (qA _ _ h)
   cbv
   exact bN (qA _ _ h)
 cbv
 cases h
end Ab
