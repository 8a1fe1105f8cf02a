/- PassesDrops holds of every core (no condition): a part of the proof: an abstract interpreter of the code that is proved sound, models of the functions, and laws of these models. -/
import Derived.Test.YtcdinjhcnhepeaaGreatDoorD02
import Derived.Test.YtcdinjhcnhepeaaGreatDoorD03
import Derived.Test.YtcdinjhcnhepeaaGreatDoorD04
set_option linter.unusedVariables false
set_option linter.unusedSimpArgs false
namespace Ab
open Go Go.Proofs.Tryz
set_option maxHeartbeats 100000000
set_option maxRecDepth 100000
variable{I:Pr}(hI:I=al){M:Md}(hM:M= .al){n nx r s p q u rl:Nat}{g:Nat→Option Ob}
 include hI hM
theorem cf{a0:ah}{v:ah×Int}(h:cd I M n a0=some v):
  bO 12 [(.agg (ba M p a0))] (.fT [(.agg (ba M r v.1)),(vi v.2)]) g nx:=by
 refine yp func12 c12 r acn ags [5] 16 ntmps12 [.cell 2 24,.tmp 3] hI (bk.cons (qE r) (bk.cons (uj r) (bk.cons (Yh r) (bk.cons (Yi r) (bk.cons (uk r) (bk.cons (wY r) (tF PP fD))))))) 8 fun call hc=>?_
 cbv
 refine ab h fun y1 cN h=>⟨_,_,_,us hc (cT hI hM cN),?_⟩;cbv
 refine si h (fun h=>by cbv;cases h;exact fin) fun h=>?_
 cbv
 refine letE h fun n2 oQ h=>⟨_,ak hI hM oQ,?_⟩;cbv
 refine ic n (fun ju aS=>?_);cbv
 refine si h (fun h=>?_) fun h=>?_
 ·as_aux_lemma=>
   cbv
   refine ab h fun x3 iJ h=>⟨_,ai hM iJ rfl,?_⟩;cbv
   refine⟨_,Pa (by rfl),?_⟩;cbv
   refine ab h fun l4 Lq h=>⟨qm hI Lq,_,_,xV (enc:=(ao M r)) hI hM Lq (by have e0:=aE (enc:=(az M r)) hM;simp only[ao,vi,vs,vb,bY,dL,e0]),?_⟩;cbv
   refine aS _ (lpD h [50009] (fun(l5,z6)=>[(19,(vi z6)),(20,.any)]) (fun(l5,z6)=>[(50007,.box [(.ia (.s 50031) (M.ln l5))]),(50031,.ow (.sl 3) none (M.map (ao M r) l5))]) fun Bc m2 cI st h=>?_)
   obtain⟨l5,z6⟩:=st
   dsimp only[eX]at h
   cbv
   refine si h (fun h=>?_) fun h=>?_
   ·cbv
    refine ab h fun x7 BA h=>⟨_,ai hM BA rfl,?_⟩;cbv
    refine⟨_,Pa (by rfl),?_⟩;cbv
    refine ab h fun l8 SO h=>?_
    (refine⟨_,_,DR (enc:=(ao M r)) hI hM SO ?_,?_⟩;next=>have e0:=aE (enc:=(az M r)) hM;simp only[ao,vi,vs,vb,bY,dL,e0])
    cbv
    exact bN (cI _ _ h)
   cbv
   intro l
   cbv
   refine letE h fun uU xU h=>⟨_,ak hI hM xU,?_⟩;cbv
   refine lp h (fun(iq,xi,ea)=>[(10,(vi ea))]) (fun(iq,xi,ea)=>[(5,.box [(.sl p (M.map cA iq))]),(50031,.ow (.sl 3) none (M.map (ao M r) xi))]) fun NJ m3 iI st h=>?_
   obtain⟨iq,xi,ea⟩:=st
   dsimp only[eW]at h
   cbv
   refine si h (fun h=>?_) fun h=>?_
   ·as_aux_lemma=>
     cbv
     refine ab h fun yB Cd h=>⟨_,ai hM Cd rfl,?_⟩;cbv
     refine letE h fun DZ DJ h=>⟨_,ak hI hM DJ,?_⟩;cbv
     refine lp h (fun(tw,qQ,eh)=>[(18,(vi eh))]) (fun(tw,qQ,eh)=>[(5,.box [(.sl p (M.map cA tw))]),(50031,.ow (.sl 3) none (M.map (ao M r) qQ))]) fun Q5 m4 qC st h=>?_
     obtain⟨tw,qQ,eh⟩:=st
     dsimp only[eV]at h
     cbv
     refine si h (fun h=>?_) fun h=>?_
     ·as_aux_lemma=>
       cbv
       refine ab h fun dR DG h=>⟨_,ai hM DG rfl,?_⟩;cbv
       try(refine⟨⟨rfl,rfl,rfl⟩,?_⟩;cbv)
       refine letE h fun vQ HZ h=>⟨_,⟨rfl,iw (enc:=an) hI hM HZ rfl⟩,?_⟩;cbv
       refine ab h fun VY yV h=>?_
       (first|refine⟨_,⟨aT hI hM yV,rN (enc:=an) (l:=[ea,eh]) hI hM rfl⟩,?_⟩|refine⟨_,⟨rfl,aT hI hM yV,rfl,rfl,rN (enc:=an) (l:=[ea,eh]) hI hM rfl⟩,?_⟩)
       cbv
       try(refine⟨rfl,?_⟩;cbv)
       refine ab h fun Pv qU h=>?_
       (first|refine⟨⟨rfl,aT hI hM qU,rfl⟩,?_⟩|refine⟨⟨aT hI hM qU,trivial⟩,?_⟩|refine⟨aT hI hM qU,?_⟩)
       cbv
       try(refine⟨⟨by decide,by decide⟩,?_⟩;cbv)
       refine ab h fun XS MQ h=>?_
       refine ab h fun Ad Mq h=>?_
       refine ab h fun x26 ac6 h=>?_
       refine ab h fun k27 ain h=>?_
       refine ab h fun x28 amT h=>?_
       refine ab h fun pM Mp h=>?_
       refine ab h fun EZ DE h=>?_
       apply Exists.intro;refine⟨?_,_,rfl,?_⟩
       ·cbv
        (first|refine⟨_,⟨rfl,rfl,aM hI MQ⟩,?_⟩|refine⟨_,aM hI MQ,?_⟩)
        cbv
        refine⟨_,_,rfl,bc hM Mq,rfl,?_⟩;cbv
        refine⟨_,ai hM ac6 rfl,?_⟩;cbv
        (first|refine⟨_,⟨rfl,rfl,aM hI ain⟩,?_⟩|refine⟨_,aM hI ain,?_⟩)
        cbv
        refine⟨_,_,rfl,bc hM amT,rfl,?_⟩;cbv
        refine⟨_,ai hM Mp rfl,?_⟩;cbv
        refine⟨?_,trivial⟩
        refine⟨_,_,_,us hc (Cs hI hM DE),?_⟩;cbv
        refine⟨?_,trivial⟩
        all_goals exact .inl rfl
       cbv
       apply Exists.intro;refine⟨?_,_,rfl,?_⟩
       ·cbv
        refine⟨?_,?_⟩
        ·refine⟨?_,trivial⟩
         refine⟨?_,trivial⟩
         all_goals exact .inl rfl
        refine⟨?_,trivial⟩
        refine⟨?_,trivial⟩
        all_goals exact .inl rfl
       cbv
       refine letE h fun Xy Mz h=>⟨_,ak hI hM Mz,?_⟩;cbv
       refine lp h (fun(Ij,Gv,CI)=>[(56,(vi CI))]) (fun(Ij,Gv,CI)=>[(12858018,.box [(vs dR.head),(vi dR.kids),(.gs r (.c 12858018 2) (M.map (aZ M r) Ij)),(vi 0),(.gs r (.c 12858018 4) (M.map an Gv)),(.v .nilFunc)])]) fun Q4 m5 qB st h=>?_
       obtain⟨Ij,Gv,CI⟩:=st
       dsimp only[eU]at h
       cbv
       refine si h (fun h=>?_) fun h=>?_
       ·as_aux_lemma=>
         cbv
         refine ab h fun oP Av h=>⟨_,ai hM Av rfl,?_⟩;cbv
         refine jV h fun Qd Fw hj h=>?_
         dsimp only at h
         refine aX none [(13,.any),(14,.any)] [(12858018,.box [(vs dR.head),(vi dR.kids),(.gs r (.c 12858018 2) (M.map (aZ M r) Qd)),(vi 0),(.gs r (.c 12858018 4) (M.map an Fw)),(.v .nilFunc)])] g nx ?_ ?_
         ·replace h:=hj
          cbv
          refine⟨?_,?_⟩
          ·refine⟨?_,trivial⟩
           refine ab h fun x38 ac4 h=>⟨_,fun hp=>ai hM (aw ac4 hp.1) rfl,?_⟩;cbv
           refine si h (fun h=>?_) fun h=>?_
           ·as_aux_lemma=>
             cbv
             refine jV h fun Ci j40 hj h=>?_
             dsimp only at h
             refine aX none [(7,(vi Ci)),(0,.any),(6,.any)] [(12858018,.box [(vs dR.head),(vi dR.kids),(.gs r (.c 12858018 2) (M.map (aZ M r) j40)),(vi 0),(.gs r (.c 12858018 4) (M.map an Gv)),(.v .nilFunc)])] g nx ?_ ?_
             ·replace h:=hj
              cbv
              refine⟨?_,trivial⟩
              refine ab h fun LD Mh h=>⟨fun _=>rfl,(.sl r (M.map an LD)),g,nx,fun ρ=>by cbv;exact us hc (aC hI hM Mh),?_⟩;cbv
              refine⟨?_,trivial⟩
              refine letE h fun n42 Sw h=>⟨_,ak hI hM Sw,?_⟩;cbv
              refine ab h fun Lt MH h=>⟨_,_,dw (enc:=an) hI hM MH (by decide) rfl,?_⟩;cbv
              refine letE h fun Fu Az h=>?_
              refine letE h fun MY Ay h=>⟨_,_,fZ (enc:=an) hI hM Az Ay rfl (fun _=>rfl) (fun _=>rfl),?_⟩;cbv
              refine⟨_,ak hI hM Sw,?_⟩;cbv
              refine si h (fun h=>?_) fun h=>?_
              ·cbv
               refine ab h fun l46 ad0 h=>?_
               apply Exists.intro;refine⟨?_,_,rfl,?_⟩
               ·cbv
                refine⟨?_,trivial⟩
                refine⟨?_,trivial⟩
                refine⟨_,bJ (enc:=(aZ M r)) (x:=(⟨5,oP.name,oP.num,[]⟩:aL)) hM ⟨rfl,rfl,rfl,(aE hM),trivial⟩ rfl,?_⟩;cbv
                refine⟨?_,trivial⟩
                refine⟨_,au (enc:=(aZ M r)) hI hM ad0 (fun _=>rfl) rfl (fun _=>rfl),?_⟩;cbv
                refine⟨?_,trivial⟩
                all_goals exact .inl rfl
               cbv
               refine letE h fun n47 adA h=>⟨_,ak hI hM adA,?_⟩;cbv
               cases h
               first|exact Or.inl rfl|exact bB
              cbv
              refine ab h fun u48 adg h=>?_
              refine ab h fun TS HY h=>?_
              apply Exists.intro;refine⟨?_,_,rfl,?_⟩
              ·cbv
               refine⟨?_,trivial⟩
               refine⟨?_,trivial⟩
               refine⟨_,bJ (enc:=(aZ M r)) (x:=(⟨5,oP.name,oP.num,Fu⟩:aL)) hM ⟨rfl,rfl,rfl,(cX hM adg),trivial⟩ rfl,?_⟩;cbv
               refine⟨?_,trivial⟩
               refine⟨_,au (enc:=(aZ M r)) hI hM HY (fun _=>rfl) rfl (fun _=>rfl),?_⟩;cbv
               refine⟨?_,trivial⟩
               all_goals exact .inl rfl
              cbv
              refine letE h fun Xx Mv h=>⟨_,ak hI hM Mv,?_⟩;cbv
              cases h
              first|exact Or.inl rfl|exact bB
             clear hj
             cbv
             refine⟨?_,trivial⟩
             refine⟨_,bJ (enc:=an) (x:=Ci) hM (af _) rfl,?_⟩;cbv
             refine⟨?_,trivial⟩
             refine ab h fun Vx SS h=>⟨_,au (enc:=an) hI hM SS (fun _=>rfl) rfl (fun _=>rfl),?_⟩;cbv
             refine⟨?_,trivial⟩
             cases h
             first|exact Or.inl rfl|exact bB
           cbv
           refine jV h fun j52 j53 hj h=>?_
           dsimp only at h
           refine aX none [(7,(vi j52)),(0,.any),(6,.any)] [(12858018,.box [(vs dR.head),(vi dR.kids),(.gs r (.c 12858018 2) (M.map (aZ M r) j53)),(vi 0),(.gs r (.c 12858018 4) (M.map an Gv)),(.v .nilFunc)])] g nx ?_ ?_
           ·replace h:=hj
            cbv
            refine⟨?_,trivial⟩
            refine ab h fun Pj JM h=>⟨fun _=>rfl,(.sl r (M.map an Pj)),g,nx,fun ρ=>by cbv;exact us hc (aC hI hM JM),?_⟩;cbv
            refine⟨?_,trivial⟩
            refine letE h fun n55 Su h=>⟨_,ak hI hM Su,?_⟩;cbv
            refine ab h fun M9 Fp h=>⟨_,_,dw (enc:=an) hI hM Fp (by decide) rfl,?_⟩;cbv
            refine letE h fun TR MC h=>?_
            refine letE h fun Tz Ax h=>⟨_,_,fZ (enc:=an) hI hM MC Ax rfl (fun _=>rfl) (fun _=>rfl),?_⟩;cbv
            refine⟨_,ak hI hM Su,?_⟩;cbv
            refine si h (fun h=>?_) fun h=>?_
            ·cbv
             refine ab h fun Ks DM h=>?_
             apply Exists.intro;refine⟨?_,_,rfl,?_⟩
             ·cbv
              refine⟨?_,trivial⟩
              refine⟨?_,trivial⟩
              refine⟨_,bJ (enc:=(aZ M r)) (x:=(⟨oP.kind,oP.name,oP.num,[]⟩:aL)) hM ⟨rfl,rfl,rfl,(aE hM),trivial⟩ rfl,?_⟩;cbv
              refine⟨?_,trivial⟩
              refine⟨_,au (enc:=(aZ M r)) hI hM DM (fun _=>rfl) rfl (fun _=>rfl),?_⟩;cbv
              refine⟨?_,trivial⟩
              all_goals exact .inl rfl
             cbv
             refine letE h fun n60 PS h=>⟨_,ak hI hM PS,?_⟩;cbv
             cases h
             first|exact Or.inl rfl|exact bB
            cbv
            refine ab h fun u61 adb h=>?_
            refine ab h fun M8 DL h=>?_
            apply Exists.intro;refine⟨?_,_,rfl,?_⟩
            ·cbv
             refine⟨?_,trivial⟩
             refine⟨?_,trivial⟩
             refine⟨_,bJ (enc:=(aZ M r)) (x:=(⟨oP.kind,oP.name,oP.num,TR⟩:aL)) hM ⟨rfl,rfl,rfl,(cX hM adb),trivial⟩ rfl,?_⟩;cbv
             refine⟨?_,trivial⟩
             refine⟨_,au (enc:=(aZ M r)) hI hM DL (fun _=>rfl) rfl (fun _=>rfl),?_⟩;cbv
             refine⟨?_,trivial⟩
             all_goals exact .inl rfl
            cbv
            refine letE h fun MX DH h=>⟨_,ak hI hM DH,?_⟩;cbv
            cases h
            first|exact Or.inl rfl|exact bB
           clear hj
           cbv
           refine⟨?_,trivial⟩
           refine⟨_,bJ (enc:=an) (x:=j52) hM (af _) rfl,?_⟩;cbv
           refine⟨?_,trivial⟩
           refine ab h fun P5 HX h=>⟨_,au (enc:=an) hI hM HX (fun _=>rfl) rfl (fun _=>rfl),?_⟩;cbv
           refine⟨?_,trivial⟩
           cases h
           first|exact Or.inl rfl|exact bB
          refine⟨?_,trivial⟩
          refine ab h fun x38 ac4 h=>⟨_,fun hp=>ai hM (aw ac4 hp.1) rfl,?_⟩;cbv
          refine si h (fun h=>?_) fun h=>?_
          ·as_aux_lemma=>
            cbv
            refine jV h fun Ci j40 hj h=>?_
            dsimp only at h
            refine aX none [(7,(vi Ci)),(0,.any),(6,.any)] [(12858018,.box [(vs dR.head),(vi dR.kids),(.gs r (.c 12858018 2) (M.map (aZ M r) j40)),(vi 0),(.gs r (.c 12858018 4) (M.map an Gv)),(.v .nilFunc)])] g nx ?_ ?_
            ·replace h:=hj
             cbv
             refine⟨?_,trivial⟩
             refine ab h fun LD Mh h=>⟨fun _=>rfl,(.sl r (M.map an LD)),g,nx,fun ρ=>by cbv;exact us hc (aC hI hM Mh),?_⟩;cbv
             refine⟨?_,trivial⟩
             refine letE h fun n42 Sw h=>⟨_,ak hI hM Sw,?_⟩;cbv
             refine ab h fun Lt MH h=>⟨_,_,dw (enc:=an) hI hM MH (by decide) rfl,?_⟩;cbv
             refine letE h fun Fu Az h=>?_
             refine letE h fun MY Ay h=>⟨_,_,fZ (enc:=an) hI hM Az Ay rfl (fun _=>rfl) (fun _=>rfl),?_⟩;cbv
             refine⟨_,ak hI hM Sw,?_⟩;cbv
             refine si h (fun h=>?_) fun h=>?_
             ·cbv
              refine ab h fun l46 ad0 h=>?_
              apply Exists.intro;refine⟨?_,_,rfl,?_⟩
              ·cbv
               refine⟨?_,trivial⟩
               refine⟨?_,trivial⟩
               refine⟨_,bJ (enc:=(aZ M r)) (x:=(⟨5,oP.name,oP.num,[]⟩:aL)) hM ⟨rfl,rfl,rfl,(aE hM),trivial⟩ rfl,?_⟩;cbv
               refine⟨?_,trivial⟩
               refine⟨_,au (enc:=(aZ M r)) hI hM ad0 (fun _=>rfl) rfl (fun _=>rfl),?_⟩;cbv
               refine⟨?_,trivial⟩
               all_goals exact .inl rfl
              cbv
              refine letE h fun n47 adA h=>⟨_,ak hI hM adA,?_⟩;cbv
              cases h
              first|exact Or.inl rfl|exact bB
             cbv
             refine ab h fun u48 adg h=>?_
             refine ab h fun TS HY h=>?_
             apply Exists.intro;refine⟨?_,_,rfl,?_⟩
             ·cbv
              refine⟨?_,trivial⟩
              refine⟨?_,trivial⟩
              refine⟨_,bJ (enc:=(aZ M r)) (x:=(⟨5,oP.name,oP.num,Fu⟩:aL)) hM ⟨rfl,rfl,rfl,(cX hM adg),trivial⟩ rfl,?_⟩;cbv
              refine⟨?_,trivial⟩
              refine⟨_,au (enc:=(aZ M r)) hI hM HY (fun _=>rfl) rfl (fun _=>rfl),?_⟩;cbv
              refine⟨?_,trivial⟩
              all_goals exact .inl rfl
             cbv
             refine letE h fun Xx Mv h=>⟨_,ak hI hM Mv,?_⟩;cbv
             cases h
             first|exact Or.inl rfl|exact bB
            clear hj
            cbv
            refine⟨?_,trivial⟩
            refine⟨_,bJ (enc:=an) (x:=Ci) hM (af _) rfl,?_⟩;cbv
            refine⟨?_,trivial⟩
            refine ab h fun Vx SS h=>⟨_,au (enc:=an) hI hM SS (fun _=>rfl) rfl (fun _=>rfl),?_⟩;cbv
            refine⟨?_,trivial⟩
            cases h
            first|exact Or.inl rfl|exact bB
          cbv
          refine jV h fun j52 j53 hj h=>?_
          dsimp only at h
          refine aX none [(7,(vi j52)),(0,.any),(6,.any)] [(12858018,.box [(vs dR.head),(vi dR.kids),(.gs r (.c 12858018 2) (M.map (aZ M r) j53)),(vi 0),(.gs r (.c 12858018 4) (M.map an Gv)),(.v .nilFunc)])] g nx ?_ ?_
          ·replace h:=hj
           cbv
           refine⟨?_,trivial⟩
           refine ab h fun Pj JM h=>⟨fun _=>rfl,(.sl r (M.map an Pj)),g,nx,fun ρ=>by cbv;exact us hc (aC hI hM JM),?_⟩;cbv
           refine⟨?_,trivial⟩
           refine letE h fun n55 Su h=>⟨_,ak hI hM Su,?_⟩;cbv
           refine ab h fun M9 Fp h=>⟨_,_,dw (enc:=an) hI hM Fp (by decide) rfl,?_⟩;cbv
           refine letE h fun TR MC h=>?_
           refine letE h fun Tz Ax h=>⟨_,_,fZ (enc:=an) hI hM MC Ax rfl (fun _=>rfl) (fun _=>rfl),?_⟩;cbv
           refine⟨_,ak hI hM Su,?_⟩;cbv
           refine si h (fun h=>?_) fun h=>?_
           ·cbv
            refine ab h fun Ks DM h=>?_
            apply Exists.intro;refine⟨?_,_,rfl,?_⟩
            ·cbv
             refine⟨?_,trivial⟩
             refine⟨?_,trivial⟩
             refine⟨_,bJ (enc:=(aZ M r)) (x:=(⟨oP.kind,oP.name,oP.num,[]⟩:aL)) hM ⟨rfl,rfl,rfl,(aE hM),trivial⟩ rfl,?_⟩;cbv
             refine⟨?_,trivial⟩
             refine⟨_,au (enc:=(aZ M r)) hI hM DM (fun _=>rfl) rfl (fun _=>rfl),?_⟩;cbv
             refine⟨?_,trivial⟩
             all_goals exact .inl rfl
            cbv
            refine letE h fun n60 PS h=>⟨_,ak hI hM PS,?_⟩;cbv
            cases h
            first|exact Or.inl rfl|exact bB
           cbv
           refine ab h fun u61 adb h=>?_
           refine ab h fun M8 DL h=>?_
           apply Exists.intro;refine⟨?_,_,rfl,?_⟩
           ·cbv
            refine⟨?_,trivial⟩
            refine⟨?_,trivial⟩
            refine⟨_,bJ (enc:=(aZ M r)) (x:=(⟨oP.kind,oP.name,oP.num,TR⟩:aL)) hM ⟨rfl,rfl,rfl,(cX hM adb),trivial⟩ rfl,?_⟩;cbv
            refine⟨?_,trivial⟩
            refine⟨_,au (enc:=(aZ M r)) hI hM DL (fun _=>rfl) rfl (fun _=>rfl),?_⟩;cbv
            refine⟨?_,trivial⟩
            all_goals exact .inl rfl
           cbv
           refine letE h fun MX DH h=>⟨_,ak hI hM DH,?_⟩;cbv
           cases h
           first|exact Or.inl rfl|exact bB
          clear hj
          cbv
          refine⟨?_,trivial⟩
          refine⟨_,bJ (enc:=an) (x:=j52) hM (af _) rfl,?_⟩;cbv
          refine⟨?_,trivial⟩
          refine ab h fun P5 HX h=>⟨_,au (enc:=an) hI hM HX (fun _=>rfl) rfl (fun _=>rfl),?_⟩;cbv
          refine⟨?_,trivial⟩
          cases h
          first|exact Or.inl rfl|exact bB
         clear hj
         cbv
         exact bN (qB _ _ h)
       cbv
       refine ab h fun VT R6 h=>?_
       apply Exists.intro;refine⟨?_,_,rfl,?_⟩
       ·cbv
        refine⟨_,ai hM R6 rfl,?_⟩;cbv
        refine⟨?_,trivial⟩
        all_goals exact .inl rfl
       cbv
       refine ab h fun Vy PY h=>?_
       (first|refine⟨_,⟨rfl,rfl,aM hI PY⟩,?_⟩|refine⟨_,aM hI PY,?_⟩)
       cbv
       refine ab h fun VS Mn h=>⟨_,_,rfl,bc hM Mn,rfl,?_⟩;cbv
       refine ab h fun k71 anw h=>⟨_,bS hI hM anw,?_⟩;cbv
       refine ab h fun ZS R5 h=>?_
       refine ab h fun TQ SQ h=>?_
       refine ab h fun XI PV h=>?_
       apply Exists.intro;refine⟨?_,_,rfl,?_⟩
       ·cbv
        refine⟨_,_,_,⟨rfl,bc (enc:=(ao M r)) hM R5,rfl,rfl⟩,?_⟩;cbv
        refine⟨?_,trivial⟩
        refine⟨_,bJ (enc:=(az M r)) (x:=(⟨dR.head,dR.kids,Ij,VT⟩:ae)) hM (af _) rfl,?_⟩;cbv
        refine⟨?_,trivial⟩
        refine⟨_,au (enc:=(az M r)) hI hM SQ (fun _=>rfl) rfl (fun _=>rfl),?_⟩;cbv
        refine⟨?_,trivial⟩
        (first|refine⟨_,rO (enc:=(ao M r)) hI hM R5 PV (show 2<3 from by decide) rfl,?_⟩|refine⟨rfl,rfl,rfl,_,rO (enc:=(ao M r)) hI hM R5 PV (show 2<3 from by decide) rfl,?_⟩)
        cbv
        all_goals exact .inl rfl
       cbv
       try(refine⟨rfl,?_⟩;cbv)
       refine lZ hI ?_;cbv
       exact bN (qC _ _ h)
     cbv
     exact bN (iI _ _ h)
   cbv
   try(refine⟨rfl,?_⟩;cbv)
   refine ab h fun u81 amY h=>?_
   obtain rfl:=Option.some.inj h
   cbv
   all_goals(repeat' apply And.intro)
   all_goals first|trivial|rfl|exact(aE hM)|exact(cX hM amY)
 cbv
 cases h
end Ab
