/- PassesDrops holds of every core (no condition): a part of the proof: an abstract interpreter of the code that is proved sound, models of the functions, and laws of these models. -/
import Derived.Test.YtcdinjhcnhepeaaGreatDoorD02
import Derived.Test.YtcdinjhcnhepeaaGreatDoorD03
import Derived.Test.YtcdinjhcnhepeaaGreatDoorD04
set_option linter.unusedVariables false
set_option linter.unusedSimpArgs false
namespace Ab
open Go Go.Proofs.Tryz
set_option maxHeartbeats 100000000
set_option maxRecDepth 100000
variable{I:Pr}(hI:I=al){M:Md}(hM:M= .al){n nx r s p q u rl:Nat}{g:Nat→Option Ob}
 include hI hM
theorem v7{a0:ah}{aW:ah}{v:ah}(h:rv I M n a0 aW=some v):
  bO 70 [(.agg (ba M p a0)),(.fn (.func 71) [(.aO q (ba M p aW) 0)])] (.agg (ba M r v)) g nx:=by
 refine yp func70 c70 r Rw UT [5] 10 ntmps70 [.cell 4 24] hI (bk.cons (qE r) (bk.cons (KX r) (bk.cons (KY r) (bk.cons (uj r) (bk.cons (Yg r) (bk.cons (uk r) (bk.cons (wY r) (tF PP fD)))))))) 8 fun call hc=>?_
 cbv
 refine letE h fun l1 MO h=>⟨_,⟨rfl,iw (enc:=an) hI hM MO rfl⟩,?_⟩;cbv
 refine letE h fun n2 oQ h=>⟨_,ak hI hM oQ,?_⟩;cbv
 refine ic n (fun ju aS=>?_);cbv
 refine si h (fun h=>?_) fun h=>?_
 ·as_aux_lemma=>
   cbv
   refine ab h fun x3 iJ h=>⟨_,ai hM iJ rfl,?_⟩;cbv
   refine⟨_,Pa (by rfl),?_⟩;cbv
   refine ab h fun l4 Lq h=>⟨qm hI Lq,_,_,xV (enc:=(ao M r)) hI hM Lq (by have e0:=aE (enc:=(az M r)) hM;simp only[ao,vi,vs,vb,bY,dL,e0]),?_⟩;cbv
   refine aS _ (lpD h [50009] (fun(l5,z6)=>[(19,(vi z6)),(20,.any)]) (fun(l5,z6)=>[(50007,.box [(.ia (.s 50031) (M.ln l5))]),(50031,.ow (.sl 3) none (M.map (ao M r) l5))]) fun Bc m2 cI st h=>?_)
   obtain⟨l5,z6⟩:=st
   dsimp only[pk]at h
   cbv
   refine si h (fun h=>?_) fun h=>?_
   ·cbv
    refine ab h fun x7 BA h=>⟨_,ai hM BA rfl,?_⟩;cbv
    refine⟨_,Pa (by rfl),?_⟩;cbv
    refine ab h fun l8 SO h=>?_
    (refine⟨_,_,DR (enc:=(ao M r)) hI hM SO ?_,?_⟩;next=>have e0:=aE (enc:=(az M r)) hM;simp only[ao,vi,vs,vb,bY,dL,e0])
    cbv
    exact bN (cI _ _ h)
   cbv
   intro l
   cbv
   refine letE h fun uU xU h=>⟨_,ak hI hM xU,?_⟩;cbv
   refine lp h (fun(iq,xi,ea)=>[(10,(vi ea))]) (fun(iq,xi,ea)=>[(5,.arr 1 (M.map an iq)),(50031,.ow (.sl 3) none (M.map (ao M r) xi))]) fun NJ m3 iI st h=>?_
   obtain⟨iq,xi,ea⟩:=st
   dsimp only[pj]at h
   cbv
   refine si h (fun h=>?_) fun h=>?_
   ·as_aux_lemma=>
     cbv
     refine ab h fun yB Cd h=>⟨_,ai hM Cd rfl,?_⟩;cbv
     refine letE h fun DZ DJ h=>⟨_,ak hI hM DJ,?_⟩;cbv
     refine lp h (fun(tw,qQ,eh)=>[(18,(vi eh))]) (fun(tw,qQ,eh)=>[(5,.arr 1 (M.map an tw)),(50031,.ow (.sl 3) none (M.map (ao M r) qQ))]) fun Q5 m4 qC st h=>?_
     obtain⟨tw,qQ,eh⟩:=st
     dsimp only[ph]at h
     cbv
     refine si h (fun h=>?_) fun h=>?_
     ·as_aux_lemma=>
       cbv
       refine ab h fun dR DG h=>⟨_,ai hM DG rfl,?_⟩;cbv
       try(refine⟨⟨rfl,rfl,rfl⟩,?_⟩;cbv)
       refine letE h fun vQ HZ h=>⟨_,⟨rfl,iw (enc:=an) hI hM HZ rfl⟩,?_⟩;cbv
       refine ab h fun VY yV h=>?_
       (first|refine⟨_,⟨aT hI hM yV,rN (enc:=an) (l:=[ea,eh]) hI hM rfl⟩,?_⟩|refine⟨_,⟨rfl,aT hI hM yV,rfl,rfl,rN (enc:=an) (l:=[ea,eh]) hI hM rfl⟩,?_⟩)
       cbv
       try(refine⟨rfl,?_⟩;cbv)
       refine ab h fun Pv qU h=>?_
       (first|refine⟨⟨rfl,aT hI hM qU,rfl⟩,?_⟩|refine⟨⟨aT hI hM qU,trivial⟩,?_⟩|refine⟨aT hI hM qU,?_⟩)
       cbv
       try(refine⟨⟨by decide,by decide⟩,?_⟩;cbv)
       refine ab h fun u24 xT h=>?_
       (first|refine⟨⟨rfl,aT hI hM xT,rfl⟩,?_⟩|refine⟨⟨aT hI hM xT,trivial⟩,?_⟩|refine⟨aT hI hM xT,?_⟩)
       cbv
       refine ab h fun ZY Fm h=>?_
       (first|refine⟨⟨rfl,rfl,rfl,aT hI hM Fm,rfl,(by have hq:=dz (enc:=an) hM (fun _=>rfl) ([ea,eh]);rw[dU.eq_def]at hq;exact hq)⟩,?_⟩|refine⟨⟨aT hI hM Fm,(by have hq:=dz (enc:=an) hM (fun _=>rfl) ([ea,eh]);rw[dU.eq_def]at hq;exact hq)⟩,?_⟩)
       cbv
       apply Exists.intro;refine⟨?_,_,rfl,?_⟩
       ·cbv
        refine⟨?_,?_⟩
        ·refine⟨?_,trivial⟩
         refine⟨?_,trivial⟩
         all_goals exact .inl rfl
        refine⟨?_,trivial⟩
        refine⟨?_,trivial⟩
        all_goals exact .inl rfl
       cbv
       refine letE h fun Xz adG h=>⟨_,ak hI hM adG,?_⟩;cbv
       refine lp h (fun(py,tY,yE)=>[(56,(vi yE))]) (fun(py,tY,yE)=>[(12915008,.box [(vs dR.head),(vi dR.kids),(.gs r (.c 12915008 2) (M.map (aZ M r) py)),(vi 0),(.gs r (.c 12915008 4) (M.map an tY)),(.fn (.func 71) [(.aO q [(.sl p (M.map (ao M p) aW.blocks))] 0)])])]) fun Q4 m5 qB st h=>?_
       obtain⟨py,tY,yE⟩:=st
       dsimp only[pg]at h
       cbv
       refine si h (fun h=>?_) fun h=>?_
       ·as_aux_lemma=>
         cbv
         refine ab h fun fu R9 h=>⟨_,ai hM R9 rfl,?_⟩;cbv
         refine jV h fun T0 j32 hj h=>?_
         dsimp only at h
         refine aX none [(13,.any),(14,.any)] [(12915008,.box [(vs dR.head),(vi dR.kids),(.gs r (.c 12915008 2) (M.map (aZ M r) T0)),(vi 0),(.gs r (.c 12915008 4) (M.map an j32)),(.fn (.func 71) [(.aO q [(.sl p (M.map (ao M p) aW.blocks))] 0)])])] g nx ?_ ?_
         ·replace h:=hj
          cbv
          refine⟨?_,?_⟩
          ·refine⟨?_,trivial⟩
           refine ab h fun uZ Au h=>⟨fun _=>rfl,(.sl r (M.map an uZ)),g,nx,fun ρ=>by cbv;exact us hc (lO hI hM Au),?_⟩;cbv
           refine ab h fun Vo HH h=>⟨_,_,_,us hc (cZ hI hM HH),?_⟩;cbv
           refine si h (fun h=>?_) fun h=>?_
           ·as_aux_lemma=>
             cbv
             refine O9 h fun Kx Qd Fw ud Ci hj h=>?_
             dsimp only at h
             refine aX none [(11,(vb Kx))] [(12916010,.box [(vs Qd),(vi Fw),(.sl p (M.map (aZ M p) ud)),(vi Ci)])] g nx ?_ ?_
             ·replace h:=hj
              cbv
              refine⟨?_,trivial⟩
              refine ab h fun B8 At h=>⟨_,_,_,us hc (kW hI hM At),?_⟩;cbv
              refine ab h fun Po HQ h=>?_
              refine ab h fun QM Mg h=>?_
              apply Exists.intro;refine⟨?_,_,rfl,?_⟩
              ·cbv
               refine⟨_,ai hM HQ rfl,?_⟩;cbv
               refine⟨?_,trivial⟩
               refine⟨_,_,_,us hc (oH hI hM Mg),?_⟩;cbv
               refine⟨?_,trivial⟩
               all_goals exact .inl rfl
              cbv
              refine⟨?_,trivial⟩
              cases h
              first|exact Or.inl rfl|exact bB
             clear hj
             cbv
             refine ab h fun k43 Te h=>?_
             refine ab h fun LM HP h=>?_
             refine ab h fun x45 ac1 h=>?_
             refine ab h fun k46 MP h=>?_
             refine ab h fun LL HO h=>?_
             refine ab h fun ZT Mo h=>?_
             refine letE h fun TA Mw h=>?_
             apply Exists.intro;refine⟨?_,_,rfl,?_⟩
             ·cbv
              (first|refine⟨_,⟨rfl,rfl,aM hI Te⟩,?_⟩|refine⟨_,aM hI Te,?_⟩)
              cbv
              refine⟨_,_,rfl,bc hM HP,rfl,?_⟩;cbv
              refine⟨_,ai hM ac1 rfl,?_⟩;cbv
              (first|refine⟨_,⟨rfl,rfl,aM hI MP⟩,?_⟩|refine⟨_,aM hI MP,?_⟩)
              cbv
              refine⟨_,_,rfl,bc hM HO,rfl,?_⟩;cbv
              refine⟨_,ai hM Mo rfl,?_⟩;cbv
              refine⟨_,ak hI hM Mw,?_⟩;cbv
              all_goals exact .inl rfl
             cbv
             refine letE h fun Xx Mv h=>⟨_,ak hI hM Mv,?_⟩;cbv
             refine lp h (fun(Q9,QJ)=>[(13,(vi Q9)),(56,(vi QJ))]) (fun _=>[]) fun VL m6 qA st h=>?_
             obtain⟨Q9,QJ⟩:=st
             dsimp only[kb]at h
             cbv
             refine si h (fun h=>?_) fun h=>?_
             ·cbv
              refine ab h fun x53 ac0 h=>⟨_,ai hM ac0 rfl,?_⟩;cbv
              refine si h (fun h=>?_) fun h=>?_
              ·cbv
               exact bN (qA _ _ h)
              cbv
              exact bN (qA _ _ h)
             cbv
             refine letE h fun n56 Mu h=>⟨_,ak hI hM Mu,?_⟩;cbv
             refine⟨_,gH (enc:=an) (l:=[n56,Q9,(I.wrap .i64 (I.sub (I.wrap .i64 (I.sub TA yE)) 1))]) hM ⟨⟨(af _),rfl⟩,⟨(af _),rfl⟩,⟨(af _),rfl⟩,trivial⟩,?_⟩;cbv
             refine ab h fun y57 RS h=>⟨_,fun hp=>us hc (dc hI hM (aw RS hp.1)),?_⟩;cbv
             refine si h (fun h=>?_) fun h=>?_
             ·as_aux_lemma=>
               cbv
               refine letE h fun Tz Ax h=>⟨_,ak hI hM Ax,?_⟩;cbv
               refine ab h fun Ks DM h=>⟨_,_,dw (enc:=an) hI hM DM (by decide) rfl,?_⟩;cbv
               refine letE h fun Oz Fo h=>?_
               refine letE h fun Xw HT h=>⟨_,_,fZ (enc:=an) hI hM Fo HT rfl (fun _=>rfl) (fun _=>rfl),?_⟩;cbv
               refine⟨_,ak hI hM Ax,?_⟩;cbv
               refine si h (fun h=>?_) fun h=>?_
               ·cbv
                refine ab h fun M8 DL h=>?_
                apply Exists.intro;refine⟨?_,_,rfl,?_⟩
                ·cbv
                 refine⟨?_,trivial⟩
                 refine⟨?_,trivial⟩
                 refine⟨_,bJ (enc:=(aZ M r)) (x:=(⟨fu.kind,fu.name,fu.num,[]⟩:aL)) hM ⟨rfl,rfl,rfl,(aE hM),trivial⟩ rfl,?_⟩;cbv
                 refine⟨?_,trivial⟩
                 refine⟨_,au (enc:=(aZ M r)) hI hM DL (fun _=>rfl) rfl (fun _=>rfl),?_⟩;cbv
                 refine⟨?_,trivial⟩
                 all_goals exact .inl rfl
                cbv
                refine letE h fun MX DH h=>⟨_,ak hI hM DH,?_⟩;cbv
                refine⟨?_,trivial⟩
                refine⟨_,bJ (enc:=an) (x:=(I.wrap .i64 (I.sub MX 1))) hM (af _) rfl,?_⟩;cbv
                refine⟨?_,trivial⟩
                refine ab h fun P5 HX h=>⟨_,au (enc:=an) hI hM HX (fun _=>rfl) rfl (fun _=>rfl),?_⟩;cbv
                refine⟨?_,trivial⟩
                cases h
                first|exact Or.inl rfl|exact bB
               cbv
               refine ab h fun u65 ada h=>?_
               refine ab h fun Ls HW h=>?_
               apply Exists.intro;refine⟨?_,_,rfl,?_⟩
               ·cbv
                refine⟨?_,trivial⟩
                refine⟨?_,trivial⟩
                refine⟨_,bJ (enc:=(aZ M r)) (x:=(⟨fu.kind,fu.name,fu.num,Oz⟩:aL)) hM ⟨rfl,rfl,rfl,(cX hM ada),trivial⟩ rfl,?_⟩;cbv
                refine⟨?_,trivial⟩
                refine⟨_,au (enc:=(aZ M r)) hI hM HW (fun _=>rfl) rfl (fun _=>rfl),?_⟩;cbv
                refine⟨?_,trivial⟩
                all_goals exact .inl rfl
               cbv
               refine letE h fun n67 adx h=>⟨_,ak hI hM adx,?_⟩;cbv
               refine⟨?_,trivial⟩
               refine⟨_,bJ (enc:=an) (x:=(I.wrap .i64 (I.sub n67 1))) hM (af _) rfl,?_⟩;cbv
               refine⟨?_,trivial⟩
               refine ab h fun l68 adX h=>⟨_,au (enc:=an) hI hM adX (fun _=>rfl) rfl (fun _=>rfl),?_⟩;cbv
               refine⟨?_,trivial⟩
               cases h
               first|exact Or.inl rfl|exact bB
             cbv
             refine letE h fun n69 adw h=>⟨_,ak hI hM adw,?_⟩;cbv
             refine lp h (fun(M7,Ii,NQ)=>[(90,(vi NQ))]) (fun(M7,Ii,NQ)=>[(12915008,.box [(vs dR.head),(vi dR.kids),(.gs r (.c 12915008 2) (M.map (aZ M r) M7)),(vi 0),(.gs r (.c 12915008 4) (M.map an tY)),(.fn (.func 71) [(.aO q [(.sl p (M.map (ao M p) aW.blocks))] 0)])]),(12916086,.box [(vs ⟨#[]⟩),(vi 0),(.v dJ),(vi 0),(.gs r (.c 12916086 4) (M.map an Ii)),(.v .nilFunc)])]) fun Rm7 m7 vX st h=>?_
             obtain⟨M7,Ii,NQ⟩:=st
             dsimp only[ka]at h
             cbv
             refine si h (fun h=>?_) fun h=>?_
             ·as_aux_lemma=>
               cbv
               refine ab h fun Ca acV h=>⟨_,ai hM acV rfl,?_⟩;cbv
               refine si h (fun h=>?_) fun h=>?_
               ·cbv
                refine ab h fun ZR R4 h=>⟨_,ai hM R4 rfl,?_⟩;cbv
                refine⟨_,bJ (enc:=an) (x:=ZR) hM (af _) rfl,?_⟩;cbv
                refine ab h fun XH adV h=>⟨_,au (enc:=an) hI hM adV (fun _=>rfl) rfl (fun _=>rfl),?_⟩;cbv
                exact bN (vX _ _ h)
               cbv
               refine si h (fun h=>?_) fun h=>?_
               ·cbv
                refine ab h fun ZQ Mm h=>?_
                refine ab h fun x77 acU h=>?_
                refine ab h fun x78 acT h=>?_
                apply Exists.intro;refine⟨?_,_,rfl,?_⟩
                ·cbv
                 refine⟨_,ai hM Mm rfl,?_⟩;cbv
                 refine⟨_,ai hM acU rfl,?_⟩;cbv
                 refine⟨_,ai hM acT rfl,?_⟩;cbv
                 all_goals exact .inl rfl
                cbv
                refine⟨_,bJ (enc:=an) (x:=x78) hM (af _) rfl,?_⟩;cbv
                refine ab h fun l79 adT h=>⟨_,au (enc:=an) hI hM adT (fun _=>rfl) rfl (fun _=>rfl),?_⟩;cbv
                exact bN (vX _ _ h)
               cbv
               refine jV h fun j80 j81 hj h=>?_
               dsimp only at h
               refine aX none [(19,(vi j80)),(18,.any)] [(12915008,.box [(vs dR.head),(vi dR.kids),(.gs r (.c 12915008 2) (M.map (aZ M r) j81)),(vi 0),(.gs r (.c 12915008 4) (M.map an tY)),(.fn (.func 71) [(.aO q [(.sl p (M.map (ao M p) aW.blocks))] 0)])])] g nx ?_ ?_
               ·replace h:=hj
                cbv
                refine⟨?_,trivial⟩
                refine ab h fun y82 acy h=>⟨fun _=>rfl,(.sl r (M.map an y82)),g,nx,fun ρ=>by cbv;exact us hc (dN hI hM acy),?_⟩;cbv
                refine⟨?_,trivial⟩
                refine letE h fun Vu HS h=>⟨_,ak hI hM HS,?_⟩;cbv
                refine ab h fun BK SN h=>⟨_,_,dw (enc:=an) hI hM SN (by decide) rfl,?_⟩;cbv
                refine letE h fun CV adQ h=>?_
                refine letE h fun n86 ads h=>⟨_,_,fZ (enc:=an) hI hM adQ ads rfl (fun _=>rfl) (fun _=>rfl),?_⟩;cbv
                refine⟨_,ak hI hM HS,?_⟩;cbv
                refine si h (fun h=>?_) fun h=>?_
                ·cbv
                 refine ab h fun l87 adP h=>?_
                 apply Exists.intro;refine⟨?_,_,rfl,?_⟩
                 ·cbv
                  refine⟨?_,trivial⟩
                  refine⟨?_,trivial⟩
                  refine⟨_,bJ (enc:=(aZ M r)) (x:=(⟨Ca.kind,Ca.name,Ca.num,[]⟩:aL)) hM ⟨rfl,rfl,rfl,(aE hM),trivial⟩ rfl,?_⟩;cbv
                  refine⟨?_,trivial⟩
                  refine⟨_,au (enc:=(aZ M r)) hI hM adP (fun _=>rfl) rfl (fun _=>rfl),?_⟩;cbv
                  refine⟨?_,trivial⟩
                  all_goals exact .inl rfl
                 cbv
                 refine letE h fun n88 adr h=>⟨_,ak hI hM adr,?_⟩;cbv
                 cases h
                 first|exact Or.inl rfl|exact bB
                cbv
                refine ab h fun u89 ac8 h=>?_
                refine ab h fun l90 adN h=>?_
                apply Exists.intro;refine⟨?_,_,rfl,?_⟩
                ·cbv
                 refine⟨?_,trivial⟩
                 refine⟨?_,trivial⟩
                 refine⟨_,bJ (enc:=(aZ M r)) (x:=(⟨Ca.kind,Ca.name,Ca.num,CV⟩:aL)) hM ⟨rfl,rfl,rfl,(cX hM ac8),trivial⟩ rfl,?_⟩;cbv
                 refine⟨?_,trivial⟩
                 refine⟨_,au (enc:=(aZ M r)) hI hM adN (fun _=>rfl) rfl (fun _=>rfl),?_⟩;cbv
                 refine⟨?_,trivial⟩
                 all_goals exact .inl rfl
                cbv
                refine letE h fun n91 adq h=>⟨_,ak hI hM adq,?_⟩;cbv
                cases h
                first|exact Or.inl rfl|exact bB
               clear hj
               cbv
               refine⟨_,bJ (enc:=an) (x:=j80) hM (af _) rfl,?_⟩;cbv
               refine ab h fun l92 adM h=>⟨_,au (enc:=an) hI hM adM (fun _=>rfl) rfl (fun _=>rfl),?_⟩;cbv
               exact bN (vX _ _ h)
             cbv
             refine ab h fun x96 acO h=>?_
             apply Exists.intro;refine⟨?_,_,rfl,?_⟩
             ·cbv
              refine⟨_,ai hM acO rfl,?_⟩;cbv
              all_goals exact .inl rfl
             cbv
             refine⟨?_,trivial⟩
             refine⟨_,bJ (enc:=an) (x:=x96) hM (af _) rfl,?_⟩;cbv
             refine⟨?_,trivial⟩
             refine ab h fun l97 adK h=>⟨_,au (enc:=an) hI hM adK (fun _=>rfl) rfl (fun _=>rfl),?_⟩;cbv
             refine⟨?_,trivial⟩
             cases h
             first|exact Or.inl rfl|exact bB
           cbv
           refine ab h fun k98 Tc h=>?_
           refine ab h fun x99 acN h=>?_
           refine ab h fun abm Sm h=>?_
           refine ab h fun aeA JY h=>?_
           refine ab h fun abl Sl h=>?_
           refine ab h fun abk Sk h=>?_
           refine letE h fun TL SK h=>?_
           apply Exists.intro;refine⟨?_,_,rfl,?_⟩
           ·cbv
            (first|refine⟨_,⟨rfl,rfl,aM hI Tc⟩,?_⟩|refine⟨_,aM hI Tc,?_⟩)
            cbv
            refine⟨_,_,rfl,bc hM acN,rfl,?_⟩;cbv
            refine⟨_,ai hM Sm rfl,?_⟩;cbv
            (first|refine⟨_,⟨rfl,rfl,aM hI JY⟩,?_⟩|refine⟨_,aM hI JY,?_⟩)
            cbv
            refine⟨_,_,rfl,bc hM Sl,rfl,?_⟩;cbv
            refine⟨_,ai hM Sk rfl,?_⟩;cbv
            refine⟨_,ak hI hM SK,?_⟩;cbv
            all_goals exact .inl rfl
           cbv
           refine⟨_,rfl,?_⟩;cbv
           refine lp h (fun _=>[]) (fun _=>[]) fun Rm8 m8 Co st h=>?_
           dsimp only[j8]at h
           cbv
           refine dk (eS hI (by decide)) ?_;cbv
           refine letE h fun Ie DK h=>⟨_,ak hI hM DK,?_⟩;cbv
           refine⟨_,gH (enc:=an) (l:=[Ie,0,(I.wrap .i64 (I.sub (I.wrap .i64 (I.sub TL yE)) 1))]) hM ⟨⟨(af _),rfl⟩,⟨(af _),rfl⟩,⟨(af _),rfl⟩,trivial⟩,?_⟩;cbv
           refine ab h fun abc RZ h=>⟨_,fun hp=>us hc (dc hI hM (aw RZ hp.1)),?_⟩;cbv
           refine si h (fun h=>?_) fun h=>?_
           ·as_aux_lemma=>
             cbv
             refine letE h fun XD JT h=>⟨_,ak hI hM JT,?_⟩;cbv
             refine ab h fun Kv S8 h=>⟨_,_,dw (enc:=an) hI hM S8 (by decide) rfl,?_⟩;cbv
             refine letE h fun Qc S7 h=>?_
             refine letE h fun aiM SJ h=>⟨_,_,fZ (enc:=an) hI hM S7 SJ rfl (fun _=>rfl) (fun _=>rfl),?_⟩;cbv
             refine⟨_,ak hI hM JT,?_⟩;cbv
             refine si h (fun h=>?_) fun h=>?_
             ·cbv
              refine ab h fun Ku DN h=>?_
              apply Exists.intro;refine⟨?_,_,rfl,?_⟩
              ·cbv
               refine⟨?_,trivial⟩
               refine⟨?_,trivial⟩
               refine⟨_,bJ (enc:=(aZ M r)) (x:=(⟨fu.kind,fu.name,fu.num,[]⟩:aL)) hM ⟨rfl,rfl,rfl,(aE hM),trivial⟩ rfl,?_⟩;cbv
               refine⟨?_,trivial⟩
               refine⟨_,au (enc:=(aZ M r)) hI hM DN (fun _=>rfl) rfl (fun _=>rfl),?_⟩;cbv
               refine⟨?_,trivial⟩
               all_goals exact .inl rfl
              cbv
              refine letE h fun TJ SI h=>⟨_,ak hI hM SI,?_⟩;cbv
              refine⟨?_,trivial⟩
              refine⟨_,bJ (enc:=an) (x:=(I.wrap .i64 (I.sub TJ 1))) hM (af _) rfl,?_⟩;cbv
              refine⟨?_,trivial⟩
              refine ab h fun aeq S6 h=>⟨_,au (enc:=an) hI hM S6 (fun _=>rfl) rfl (fun _=>rfl),?_⟩;cbv
              refine⟨?_,trivial⟩
              cases h
              first|exact Or.inl rfl|exact bB
             cbv
             refine ab h fun ahI Sp h=>?_
             refine ab h fun XN S5 h=>?_
             apply Exists.intro;refine⟨?_,_,rfl,?_⟩
             ·cbv
              refine⟨?_,trivial⟩
              refine⟨?_,trivial⟩
              refine⟨_,bJ (enc:=(aZ M r)) (x:=(⟨fu.kind,fu.name,fu.num,Qc⟩:aL)) hM ⟨rfl,rfl,rfl,(cX hM Sp),trivial⟩ rfl,?_⟩;cbv
              refine⟨?_,trivial⟩
              refine⟨_,au (enc:=(aZ M r)) hI hM S5 (fun _=>rfl) rfl (fun _=>rfl),?_⟩;cbv
              refine⟨?_,trivial⟩
              all_goals exact .inl rfl
             cbv
             refine letE h fun TH SH h=>⟨_,ak hI hM SH,?_⟩;cbv
             refine⟨?_,trivial⟩
             refine⟨_,bJ (enc:=an) (x:=(I.wrap .i64 (I.sub TH 1))) hM (af _) rfl,?_⟩;cbv
             refine⟨?_,trivial⟩
             refine ab h fun aep S4 h=>⟨_,au (enc:=an) hI hM S4 (fun _=>rfl) rfl (fun _=>rfl),?_⟩;cbv
             refine⟨?_,trivial⟩
             cases h
             first|exact Or.inl rfl|exact bB
           cbv
           refine⟨_,rfl,?_⟩;cbv
           refine lp h (fun _=>[]) (fun _=>[]) fun Rm9 m9 KQ st h=>?_
           dsimp only[j7]at h
           cbv
           refine dk (eS hI (by decide)) ?_;cbv
           cases h
          refine⟨?_,trivial⟩
          refine ab h fun uZ Au h=>⟨fun _=>rfl,(.sl r (M.map an uZ)),g,nx,fun ρ=>by cbv;exact us hc (lO hI hM Au),?_⟩;cbv
          refine ab h fun Vo HH h=>⟨_,_,_,us hc (cZ hI hM HH),?_⟩;cbv
          refine si h (fun h=>?_) fun h=>?_
          ·as_aux_lemma=>
            cbv
            refine O9 h fun Kx Qd Fw ud Ci hj h=>?_
            dsimp only at h
            refine aX none [(11,(vb Kx))] [(12916010,.box [(vs Qd),(vi Fw),(.sl p (M.map (aZ M p) ud)),(vi Ci)])] g nx ?_ ?_
            ·replace h:=hj
             cbv
             refine⟨?_,trivial⟩
             refine ab h fun B8 At h=>⟨_,_,_,us hc (kW hI hM At),?_⟩;cbv
             refine ab h fun Po HQ h=>?_
             refine ab h fun QM Mg h=>?_
             apply Exists.intro;refine⟨?_,_,rfl,?_⟩
             ·cbv
              refine⟨_,ai hM HQ rfl,?_⟩;cbv
              refine⟨?_,trivial⟩
              refine⟨_,_,_,us hc (oH hI hM Mg),?_⟩;cbv
              refine⟨?_,trivial⟩
              all_goals exact .inl rfl
             cbv
             refine⟨?_,trivial⟩
             cases h
             first|exact Or.inl rfl|exact bB
            clear hj
            cbv
            refine ab h fun k43 Te h=>?_
            refine ab h fun LM HP h=>?_
            refine ab h fun x45 ac1 h=>?_
            refine ab h fun k46 MP h=>?_
            refine ab h fun LL HO h=>?_
            refine ab h fun ZT Mo h=>?_
            refine letE h fun TA Mw h=>?_
            apply Exists.intro;refine⟨?_,_,rfl,?_⟩
            ·cbv
             (first|refine⟨_,⟨rfl,rfl,aM hI Te⟩,?_⟩|refine⟨_,aM hI Te,?_⟩)
             cbv
             refine⟨_,_,rfl,bc hM HP,rfl,?_⟩;cbv
             refine⟨_,ai hM ac1 rfl,?_⟩;cbv
             (first|refine⟨_,⟨rfl,rfl,aM hI MP⟩,?_⟩|refine⟨_,aM hI MP,?_⟩)
             cbv
             refine⟨_,_,rfl,bc hM HO,rfl,?_⟩;cbv
             refine⟨_,ai hM Mo rfl,?_⟩;cbv
             refine⟨_,ak hI hM Mw,?_⟩;cbv
             all_goals exact .inl rfl
            cbv
            refine letE h fun Xx Mv h=>⟨_,ak hI hM Mv,?_⟩;cbv
            refine lp h (fun(Q9,QJ)=>[(13,(vi Q9)),(56,(vi QJ))]) (fun _=>[]) fun VL m6 qA st h=>?_
            obtain⟨Q9,QJ⟩:=st
            dsimp only[kb]at h
            cbv
            refine si h (fun h=>?_) fun h=>?_
            ·cbv
             refine ab h fun x53 ac0 h=>⟨_,ai hM ac0 rfl,?_⟩;cbv
             refine si h (fun h=>?_) fun h=>?_
             ·cbv
              exact bN (qA _ _ h)
             cbv
             exact bN (qA _ _ h)
            cbv
            refine letE h fun n56 Mu h=>⟨_,ak hI hM Mu,?_⟩;cbv
            refine⟨_,gH (enc:=an) (l:=[n56,Q9,(I.wrap .i64 (I.sub (I.wrap .i64 (I.sub TA yE)) 1))]) hM ⟨⟨(af _),rfl⟩,⟨(af _),rfl⟩,⟨(af _),rfl⟩,trivial⟩,?_⟩;cbv
            refine ab h fun y57 RS h=>⟨_,fun hp=>us hc (dc hI hM (aw RS hp.1)),?_⟩;cbv
            refine si h (fun h=>?_) fun h=>?_
            ·as_aux_lemma=>
              cbv
              refine letE h fun Tz Ax h=>⟨_,ak hI hM Ax,?_⟩;cbv
              refine ab h fun Ks DM h=>⟨_,_,dw (enc:=an) hI hM DM (by decide) rfl,?_⟩;cbv
              refine letE h fun Oz Fo h=>?_
              refine letE h fun Xw HT h=>⟨_,_,fZ (enc:=an) hI hM Fo HT rfl (fun _=>rfl) (fun _=>rfl),?_⟩;cbv
              refine⟨_,ak hI hM Ax,?_⟩;cbv
              refine si h (fun h=>?_) fun h=>?_
              ·cbv
               refine ab h fun M8 DL h=>?_
               apply Exists.intro;refine⟨?_,_,rfl,?_⟩
               ·cbv
                refine⟨?_,trivial⟩
                refine⟨?_,trivial⟩
                refine⟨_,bJ (enc:=(aZ M r)) (x:=(⟨fu.kind,fu.name,fu.num,[]⟩:aL)) hM ⟨rfl,rfl,rfl,(aE hM),trivial⟩ rfl,?_⟩;cbv
                refine⟨?_,trivial⟩
                refine⟨_,au (enc:=(aZ M r)) hI hM DL (fun _=>rfl) rfl (fun _=>rfl),?_⟩;cbv
                refine⟨?_,trivial⟩
                all_goals exact .inl rfl
               cbv
               refine letE h fun MX DH h=>⟨_,ak hI hM DH,?_⟩;cbv
               refine⟨?_,trivial⟩
               refine⟨_,bJ (enc:=an) (x:=(I.wrap .i64 (I.sub MX 1))) hM (af _) rfl,?_⟩;cbv
               refine⟨?_,trivial⟩
               refine ab h fun P5 HX h=>⟨_,au (enc:=an) hI hM HX (fun _=>rfl) rfl (fun _=>rfl),?_⟩;cbv
               refine⟨?_,trivial⟩
               cases h
               first|exact Or.inl rfl|exact bB
              cbv
              refine ab h fun u65 ada h=>?_
              refine ab h fun Ls HW h=>?_
              apply Exists.intro;refine⟨?_,_,rfl,?_⟩
              ·cbv
               refine⟨?_,trivial⟩
               refine⟨?_,trivial⟩
               refine⟨_,bJ (enc:=(aZ M r)) (x:=(⟨fu.kind,fu.name,fu.num,Oz⟩:aL)) hM ⟨rfl,rfl,rfl,(cX hM ada),trivial⟩ rfl,?_⟩;cbv
               refine⟨?_,trivial⟩
               refine⟨_,au (enc:=(aZ M r)) hI hM HW (fun _=>rfl) rfl (fun _=>rfl),?_⟩;cbv
               refine⟨?_,trivial⟩
               all_goals exact .inl rfl
              cbv
              refine letE h fun n67 adx h=>⟨_,ak hI hM adx,?_⟩;cbv
              refine⟨?_,trivial⟩
              refine⟨_,bJ (enc:=an) (x:=(I.wrap .i64 (I.sub n67 1))) hM (af _) rfl,?_⟩;cbv
              refine⟨?_,trivial⟩
              refine ab h fun l68 adX h=>⟨_,au (enc:=an) hI hM adX (fun _=>rfl) rfl (fun _=>rfl),?_⟩;cbv
              refine⟨?_,trivial⟩
              cases h
              first|exact Or.inl rfl|exact bB
            cbv
            refine letE h fun n69 adw h=>⟨_,ak hI hM adw,?_⟩;cbv
            refine lp h (fun(M7,Ii,NQ)=>[(90,(vi NQ))]) (fun(M7,Ii,NQ)=>[(12915008,.box [(vs dR.head),(vi dR.kids),(.gs r (.c 12915008 2) (M.map (aZ M r) M7)),(vi 0),(.gs r (.c 12915008 4) (M.map an tY)),(.fn (.func 71) [(.aO q [(.sl p (M.map (ao M p) aW.blocks))] 0)])]),(12916086,.box [(vs ⟨#[]⟩),(vi 0),(.v dJ),(vi 0),(.gs r (.c 12916086 4) (M.map an Ii)),(.v .nilFunc)])]) fun Rm7 m7 vX st h=>?_
            obtain⟨M7,Ii,NQ⟩:=st
            dsimp only[ka]at h
            cbv
            refine si h (fun h=>?_) fun h=>?_
            ·as_aux_lemma=>
              cbv
              refine ab h fun Ca acV h=>⟨_,ai hM acV rfl,?_⟩;cbv
              refine si h (fun h=>?_) fun h=>?_
              ·cbv
               refine ab h fun ZR R4 h=>⟨_,ai hM R4 rfl,?_⟩;cbv
               refine⟨_,bJ (enc:=an) (x:=ZR) hM (af _) rfl,?_⟩;cbv
               refine ab h fun XH adV h=>⟨_,au (enc:=an) hI hM adV (fun _=>rfl) rfl (fun _=>rfl),?_⟩;cbv
               exact bN (vX _ _ h)
              cbv
              refine si h (fun h=>?_) fun h=>?_
              ·cbv
               refine ab h fun ZQ Mm h=>?_
               refine ab h fun x77 acU h=>?_
               refine ab h fun x78 acT h=>?_
               apply Exists.intro;refine⟨?_,_,rfl,?_⟩
               ·cbv
                refine⟨_,ai hM Mm rfl,?_⟩;cbv
                refine⟨_,ai hM acU rfl,?_⟩;cbv
                refine⟨_,ai hM acT rfl,?_⟩;cbv
                all_goals exact .inl rfl
               cbv
               refine⟨_,bJ (enc:=an) (x:=x78) hM (af _) rfl,?_⟩;cbv
               refine ab h fun l79 adT h=>⟨_,au (enc:=an) hI hM adT (fun _=>rfl) rfl (fun _=>rfl),?_⟩;cbv
               exact bN (vX _ _ h)
              cbv
              refine jV h fun j80 j81 hj h=>?_
              dsimp only at h
              refine aX none [(19,(vi j80)),(18,.any)] [(12915008,.box [(vs dR.head),(vi dR.kids),(.gs r (.c 12915008 2) (M.map (aZ M r) j81)),(vi 0),(.gs r (.c 12915008 4) (M.map an tY)),(.fn (.func 71) [(.aO q [(.sl p (M.map (ao M p) aW.blocks))] 0)])])] g nx ?_ ?_
              ·replace h:=hj
               cbv
               refine⟨?_,trivial⟩
               refine ab h fun y82 acy h=>⟨fun _=>rfl,(.sl r (M.map an y82)),g,nx,fun ρ=>by cbv;exact us hc (dN hI hM acy),?_⟩;cbv
               refine⟨?_,trivial⟩
               refine letE h fun Vu HS h=>⟨_,ak hI hM HS,?_⟩;cbv
               refine ab h fun BK SN h=>⟨_,_,dw (enc:=an) hI hM SN (by decide) rfl,?_⟩;cbv
               refine letE h fun CV adQ h=>?_
               refine letE h fun n86 ads h=>⟨_,_,fZ (enc:=an) hI hM adQ ads rfl (fun _=>rfl) (fun _=>rfl),?_⟩;cbv
               refine⟨_,ak hI hM HS,?_⟩;cbv
               refine si h (fun h=>?_) fun h=>?_
               ·cbv
                refine ab h fun l87 adP h=>?_
                apply Exists.intro;refine⟨?_,_,rfl,?_⟩
                ·cbv
                 refine⟨?_,trivial⟩
                 refine⟨?_,trivial⟩
                 refine⟨_,bJ (enc:=(aZ M r)) (x:=(⟨Ca.kind,Ca.name,Ca.num,[]⟩:aL)) hM ⟨rfl,rfl,rfl,(aE hM),trivial⟩ rfl,?_⟩;cbv
                 refine⟨?_,trivial⟩
                 refine⟨_,au (enc:=(aZ M r)) hI hM adP (fun _=>rfl) rfl (fun _=>rfl),?_⟩;cbv
                 refine⟨?_,trivial⟩
                 all_goals exact .inl rfl
                cbv
                refine letE h fun n88 adr h=>⟨_,ak hI hM adr,?_⟩;cbv
                cases h
                first|exact Or.inl rfl|exact bB
               cbv
               refine ab h fun u89 ac8 h=>?_
               refine ab h fun l90 adN h=>?_
               apply Exists.intro;refine⟨?_,_,rfl,?_⟩
               ·cbv
                refine⟨?_,trivial⟩
                refine⟨?_,trivial⟩
                refine⟨_,bJ (enc:=(aZ M r)) (x:=(⟨Ca.kind,Ca.name,Ca.num,CV⟩:aL)) hM ⟨rfl,rfl,rfl,(cX hM ac8),trivial⟩ rfl,?_⟩;cbv
                refine⟨?_,trivial⟩
                refine⟨_,au (enc:=(aZ M r)) hI hM adN (fun _=>rfl) rfl (fun _=>rfl),?_⟩;cbv
                refine⟨?_,trivial⟩
                all_goals exact .inl rfl
               cbv
               refine letE h fun n91 adq h=>⟨_,ak hI hM adq,?_⟩;cbv
               cases h
               first|exact Or.inl rfl|exact bB
              clear hj
              cbv
              refine⟨_,bJ (enc:=an) (x:=j80) hM (af _) rfl,?_⟩;cbv
              refine ab h fun l92 adM h=>⟨_,au (enc:=an) hI hM adM (fun _=>rfl) rfl (fun _=>rfl),?_⟩;cbv
              exact bN (vX _ _ h)
            cbv
            refine ab h fun x96 acO h=>?_
            apply Exists.intro;refine⟨?_,_,rfl,?_⟩
            ·cbv
             refine⟨_,ai hM acO rfl,?_⟩;cbv
             all_goals exact .inl rfl
            cbv
            refine⟨?_,trivial⟩
            refine⟨_,bJ (enc:=an) (x:=x96) hM (af _) rfl,?_⟩;cbv
            refine⟨?_,trivial⟩
            refine ab h fun l97 adK h=>⟨_,au (enc:=an) hI hM adK (fun _=>rfl) rfl (fun _=>rfl),?_⟩;cbv
            refine⟨?_,trivial⟩
            cases h
            first|exact Or.inl rfl|exact bB
          cbv
          refine ab h fun k98 Tc h=>?_
          refine ab h fun x99 acN h=>?_
          refine ab h fun abm Sm h=>?_
          refine ab h fun aeA JY h=>?_
          refine ab h fun abl Sl h=>?_
          refine ab h fun abk Sk h=>?_
          refine letE h fun TL SK h=>?_
          apply Exists.intro;refine⟨?_,_,rfl,?_⟩
          ·cbv
           (first|refine⟨_,⟨rfl,rfl,aM hI Tc⟩,?_⟩|refine⟨_,aM hI Tc,?_⟩)
           cbv
           refine⟨_,_,rfl,bc hM acN,rfl,?_⟩;cbv
           refine⟨_,ai hM Sm rfl,?_⟩;cbv
           (first|refine⟨_,⟨rfl,rfl,aM hI JY⟩,?_⟩|refine⟨_,aM hI JY,?_⟩)
           cbv
           refine⟨_,_,rfl,bc hM Sl,rfl,?_⟩;cbv
           refine⟨_,ai hM Sk rfl,?_⟩;cbv
           refine⟨_,ak hI hM SK,?_⟩;cbv
           all_goals exact .inl rfl
          cbv
          refine⟨_,rfl,?_⟩;cbv
          refine lp h (fun _=>[]) (fun _=>[]) fun Rm8 m8 Co st h=>?_
          dsimp only[j8]at h
          cbv
          refine dk (eS hI (by decide)) ?_;cbv
          refine letE h fun Ie DK h=>⟨_,ak hI hM DK,?_⟩;cbv
          refine⟨_,gH (enc:=an) (l:=[Ie,0,(I.wrap .i64 (I.sub (I.wrap .i64 (I.sub TL yE)) 1))]) hM ⟨⟨(af _),rfl⟩,⟨(af _),rfl⟩,⟨(af _),rfl⟩,trivial⟩,?_⟩;cbv
          refine ab h fun abc RZ h=>⟨_,fun hp=>us hc (dc hI hM (aw RZ hp.1)),?_⟩;cbv
          refine si h (fun h=>?_) fun h=>?_
          ·as_aux_lemma=>
            cbv
            refine letE h fun XD JT h=>⟨_,ak hI hM JT,?_⟩;cbv
            refine ab h fun Kv S8 h=>⟨_,_,dw (enc:=an) hI hM S8 (by decide) rfl,?_⟩;cbv
            refine letE h fun Qc S7 h=>?_
            refine letE h fun aiM SJ h=>⟨_,_,fZ (enc:=an) hI hM S7 SJ rfl (fun _=>rfl) (fun _=>rfl),?_⟩;cbv
            refine⟨_,ak hI hM JT,?_⟩;cbv
            refine si h (fun h=>?_) fun h=>?_
            ·cbv
             refine ab h fun Ku DN h=>?_
             apply Exists.intro;refine⟨?_,_,rfl,?_⟩
             ·cbv
              refine⟨?_,trivial⟩
              refine⟨?_,trivial⟩
              refine⟨_,bJ (enc:=(aZ M r)) (x:=(⟨fu.kind,fu.name,fu.num,[]⟩:aL)) hM ⟨rfl,rfl,rfl,(aE hM),trivial⟩ rfl,?_⟩;cbv
              refine⟨?_,trivial⟩
              refine⟨_,au (enc:=(aZ M r)) hI hM DN (fun _=>rfl) rfl (fun _=>rfl),?_⟩;cbv
              refine⟨?_,trivial⟩
              all_goals exact .inl rfl
             cbv
             refine letE h fun TJ SI h=>⟨_,ak hI hM SI,?_⟩;cbv
             refine⟨?_,trivial⟩
             refine⟨_,bJ (enc:=an) (x:=(I.wrap .i64 (I.sub TJ 1))) hM (af _) rfl,?_⟩;cbv
             refine⟨?_,trivial⟩
             refine ab h fun aeq S6 h=>⟨_,au (enc:=an) hI hM S6 (fun _=>rfl) rfl (fun _=>rfl),?_⟩;cbv
             refine⟨?_,trivial⟩
             cases h
             first|exact Or.inl rfl|exact bB
            cbv
            refine ab h fun ahI Sp h=>?_
            refine ab h fun XN S5 h=>?_
            apply Exists.intro;refine⟨?_,_,rfl,?_⟩
            ·cbv
             refine⟨?_,trivial⟩
             refine⟨?_,trivial⟩
             refine⟨_,bJ (enc:=(aZ M r)) (x:=(⟨fu.kind,fu.name,fu.num,Qc⟩:aL)) hM ⟨rfl,rfl,rfl,(cX hM Sp),trivial⟩ rfl,?_⟩;cbv
             refine⟨?_,trivial⟩
             refine⟨_,au (enc:=(aZ M r)) hI hM S5 (fun _=>rfl) rfl (fun _=>rfl),?_⟩;cbv
             refine⟨?_,trivial⟩
             all_goals exact .inl rfl
            cbv
            refine letE h fun TH SH h=>⟨_,ak hI hM SH,?_⟩;cbv
            refine⟨?_,trivial⟩
            refine⟨_,bJ (enc:=an) (x:=(I.wrap .i64 (I.sub TH 1))) hM (af _) rfl,?_⟩;cbv
            refine⟨?_,trivial⟩
            refine ab h fun aep S4 h=>⟨_,au (enc:=an) hI hM S4 (fun _=>rfl) rfl (fun _=>rfl),?_⟩;cbv
            refine⟨?_,trivial⟩
            cases h
            first|exact Or.inl rfl|exact bB
          cbv
          refine⟨_,rfl,?_⟩;cbv
          refine lp h (fun _=>[]) (fun _=>[]) fun Rm9 m9 KQ st h=>?_
          dsimp only[j7]at h
          cbv
          refine dk (eS hI (by decide)) ?_;cbv
          cases h
         clear hj
         cbv
         exact bN (qB _ _ h)
       cbv
       refine ab h fun abf aia h=>?_
       apply Exists.intro;refine⟨?_,_,rfl,?_⟩
       ·cbv
        refine⟨_,ai hM aia rfl,?_⟩;cbv
        refine⟨?_,trivial⟩
        all_goals exact .inl rfl
       cbv
       refine ab h fun aja Z6 h=>?_
       (first|refine⟨_,⟨rfl,rfl,aM hI Z6⟩,?_⟩|refine⟨_,aM hI Z6,?_⟩)
       cbv
       refine ab h fun ahD ah9 h=>⟨_,_,rfl,bc hM ah9,rfl,?_⟩;cbv
       refine ab h fun aex aiq h=>⟨_,bS hI hM aiq,?_⟩;cbv
       refine ab h fun VW Se h=>?_
       refine ab h fun ai1 aij h=>?_
       refine ab h fun P9 Gh h=>?_
       apply Exists.intro;refine⟨?_,_,rfl,?_⟩
       ·cbv
        refine⟨_,_,_,⟨rfl,bc (enc:=(ao M r)) hM Se,rfl,rfl⟩,?_⟩;cbv
        refine⟨?_,trivial⟩
        refine⟨_,bJ (enc:=(az M r)) (x:=(⟨dR.head,dR.kids,py,abf⟩:ae)) hM (af _) rfl,?_⟩;cbv
        refine⟨?_,trivial⟩
        refine⟨_,au (enc:=(az M r)) hI hM aij (fun _=>rfl) rfl (fun _=>rfl),?_⟩;cbv
        refine⟨?_,trivial⟩
        (first|refine⟨_,rO (enc:=(ao M r)) hI hM Se Gh (show 2<3 from by decide) rfl,?_⟩|refine⟨rfl,rfl,rfl,_,rO (enc:=(ao M r)) hI hM Se Gh (show 2<3 from by decide) rfl,?_⟩)
        cbv
        all_goals exact .inl rfl
       cbv
       try(refine⟨rfl,?_⟩;cbv)
       refine lZ hI ?_;cbv
       exact bN (qC _ _ h)
     cbv
     exact bN (iI _ _ h)
   cbv
   try(refine⟨rfl,?_⟩;cbv)
   refine ab h fun amv aie h=>?_
   obtain rfl:=Option.some.inj h
   cbv
   all_goals(repeat' apply And.intro)
   all_goals first|trivial|rfl|exact(aE hM)|exact(cX hM aie)
 cbv
 cases h
end Ab
