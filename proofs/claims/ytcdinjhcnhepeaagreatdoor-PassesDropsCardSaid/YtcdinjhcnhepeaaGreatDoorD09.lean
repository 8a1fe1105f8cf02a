/- PassesDrops holds of every core (no condition): a part of the proof: an abstract interpreter of the code that is proved sound, models of the functions, and laws of these models. -/
import Derived.Test.YtcdinjhcnhepeaaGreatDoorD02
import Derived.Test.YtcdinjhcnhepeaaGreatDoorD03
import Derived.Test.YtcdinjhcnhepeaaGreatDoorD04
set_option linter.unusedVariables false
set_option linter.unusedSimpArgs false
namespace Ab
open Go Go.Proofs.Tryz
set_option maxHeartbeats 100000000
set_option maxRecDepth 100000
variable{I:Pr}(hI:I=al){M:Md}(hM:M= .al){n nx r s p q u rl:Nat}{g:Nat→Option Ob}
 include hI hM
theorem v5{a0:ah}{aW:ah}{v:ah}(h:ru I M n a0 aW=some v):
  bO 70 [(.agg (ba M p a0)),(.fn (.func 73) [(.aO q (ba M p aW) 0)])] (.agg (ba M r v)) g nx:=by
 refine yp func70 c70 r Rw UT [5] 10 ntmps70 [.cell 4 24] hI (bk.cons (qE r) (bk.cons (KX r) (bk.cons (KY r) (bk.cons (uj r) (bk.cons (Yf r) (bk.cons (uk r) (bk.cons (wY r) (tF PP fD)))))))) 8 fun call hc=>?_
 cbv
 refine letE h fun l1 MO h=>⟨_,⟨rfl,iw (enc:=an) hI hM MO rfl⟩,?_⟩;cbv
 refine letE h fun n2 oQ h=>⟨_,ak hI hM oQ,?_⟩;cbv
 refine ic n (fun ju aS=>?_);cbv
 refine si h (fun h=>?_) fun h=>?_
 ·as_aux_lemma=>
   cbv
   refine ab h fun x3 iJ h=>⟨_,ai hM iJ rfl,?_⟩;cbv
   refine⟨_,Pa (by rfl),?_⟩;cbv
   refine ab h fun l4 Lq h=>⟨qm hI Lq,_,_,xV (enc:=(ao M r)) hI hM Lq (by have e0:=aE (enc:=(az M r)) hM;simp only[ao,vi,vs,vb,bY,dL,e0]),?_⟩;cbv
   refine aS _ (lpD h [50009] (fun(l5,z6)=>[(19,(vi z6)),(20,.any)]) (fun(l5,z6)=>[(50007,.box [(.ia (.s 50031) (M.ln l5))]),(50031,.ow (.sl 3) none (M.map (ao M r) l5))]) fun Bc m2 cI st h=>?_)
   obtain⟨l5,z6⟩:=st
   dsimp only[pf]at h
   cbv
   refine si h (fun h=>?_) fun h=>?_
   ·cbv
    refine ab h fun x7 BA h=>⟨_,ai hM BA rfl,?_⟩;cbv
    refine⟨_,Pa (by rfl),?_⟩;cbv
    refine ab h fun l8 SO h=>?_
    (refine⟨_,_,DR (enc:=(ao M r)) hI hM SO ?_,?_⟩;next=>have e0:=aE (enc:=(az M r)) hM;simp only[ao,vi,vs,vb,bY,dL,e0])
    cbv
    exact bN (cI _ _ h)
   cbv
   intro l
   cbv
   refine letE h fun uU xU h=>⟨_,ak hI hM xU,?_⟩;cbv
   refine lp h (fun(iq,xi,ea)=>[(10,(vi ea))]) (fun(iq,xi,ea)=>[(5,.arr 1 (M.map an iq)),(50031,.ow (.sl 3) none (M.map (ao M r) xi))]) fun NJ m3 iI st h=>?_
   obtain⟨iq,xi,ea⟩:=st
   dsimp only[pd]at h
   cbv
   refine si h (fun h=>?_) fun h=>?_
   ·as_aux_lemma=>
     cbv
     refine ab h fun yB Cd h=>⟨_,ai hM Cd rfl,?_⟩;cbv
     refine letE h fun DZ DJ h=>⟨_,ak hI hM DJ,?_⟩;cbv
     refine lp h (fun(tw,qQ,eh)=>[(18,(vi eh))]) (fun(tw,qQ,eh)=>[(5,.arr 1 (M.map an tw)),(50031,.ow (.sl 3) none (M.map (ao M r) qQ))]) fun Q5 m4 qC st h=>?_
     obtain⟨tw,qQ,eh⟩:=st
     dsimp only[pc]at h
     cbv
     refine si h (fun h=>?_) fun h=>?_
     ·as_aux_lemma=>
       cbv
       refine ab h fun dR DG h=>⟨_,ai hM DG rfl,?_⟩;cbv
       try(refine⟨⟨rfl,rfl,rfl⟩,?_⟩;cbv)
       refine letE h fun vQ HZ h=>⟨_,⟨rfl,iw (enc:=an) hI hM HZ rfl⟩,?_⟩;cbv
       refine ab h fun VY yV h=>?_
       (first|refine⟨_,⟨aT hI hM yV,rN (enc:=an) (l:=[ea,eh]) hI hM rfl⟩,?_⟩|refine⟨_,⟨rfl,aT hI hM yV,rfl,rfl,rN (enc:=an) (l:=[ea,eh]) hI hM rfl⟩,?_⟩)
       cbv
       try(refine⟨rfl,?_⟩;cbv)
       refine ab h fun Pv qU h=>?_
       (first|refine⟨⟨rfl,aT hI hM qU,rfl⟩,?_⟩|refine⟨⟨aT hI hM qU,trivial⟩,?_⟩|refine⟨aT hI hM qU,?_⟩)
       cbv
       try(refine⟨⟨by decide,by decide⟩,?_⟩;cbv)
       refine ab h fun u24 xT h=>?_
       (first|refine⟨⟨rfl,aT hI hM xT,rfl⟩,?_⟩|refine⟨⟨aT hI hM xT,trivial⟩,?_⟩|refine⟨aT hI hM xT,?_⟩)
       cbv
       refine ab h fun ZY Fm h=>?_
       (first|refine⟨⟨rfl,rfl,rfl,aT hI hM Fm,rfl,(by have hq:=dz (enc:=an) hM (fun _=>rfl) ([ea,eh]);rw[dU.eq_def]at hq;exact hq)⟩,?_⟩|refine⟨⟨aT hI hM Fm,(by have hq:=dz (enc:=an) hM (fun _=>rfl) ([ea,eh]);rw[dU.eq_def]at hq;exact hq)⟩,?_⟩)
       cbv
       apply Exists.intro;refine⟨?_,_,rfl,?_⟩
       ·cbv
        refine⟨?_,?_⟩
        ·refine⟨?_,trivial⟩
         refine⟨?_,trivial⟩
         all_goals exact .inl rfl
        refine⟨?_,trivial⟩
        refine⟨?_,trivial⟩
        all_goals exact .inl rfl
       cbv
       refine letE h fun Xz adG h=>⟨_,ak hI hM adG,?_⟩;cbv
       refine lp h (fun(py,tY,yE)=>[(56,(vi yE))]) (fun(py,tY,yE)=>[(12915008,.box [(vs dR.head),(vi dR.kids),(.gs r (.c 12915008 2) (M.map (aZ M r) py)),(vi 0),(.gs r (.c 12915008 4) (M.map an tY)),(.fn (.func 73) [(.aO q [(.sl p (M.map (ao M p) aW.blocks))] 0)])])]) fun Q4 m5 qB st h=>?_
       obtain⟨py,tY,yE⟩:=st
       dsimp only[pb]at h
       cbv
       refine si h (fun h=>?_) fun h=>?_
       ·as_aux_lemma=>
         cbv
         refine ab h fun fu R9 h=>⟨_,ai hM R9 rfl,?_⟩;cbv
         refine jV h fun T0 j32 hj h=>?_
         dsimp only at h
         refine aX none [(13,.any),(14,.any)] [(12915008,.box [(vs dR.head),(vi dR.kids),(.gs r (.c 12915008 2) (M.map (aZ M r) T0)),(vi 0),(.gs r (.c 12915008 4) (M.map an j32)),(.fn (.func 73) [(.aO q [(.sl p (M.map (ao M p) aW.blocks))] 0)])])] g nx ?_ ?_
         ·replace h:=hj
          cbv
          refine⟨?_,?_⟩
          ·refine⟨?_,trivial⟩
           refine ab h fun uZ Au h=>⟨fun _=>rfl,(.sl r (M.map an uZ)),g,nx,fun ρ=>by cbv;exact us hc (kQ hI hM Au),?_⟩;cbv
           refine ab h fun Vo HH h=>⟨_,_,_,us hc (cZ hI hM HH),?_⟩;cbv
           refine si h (fun h=>?_) fun h=>?_
           ·as_aux_lemma=>
             cbv
             refine O9 h fun Kx Qd Fw ud Ci hj h=>?_
             dsimp only at h
             refine aX none [(11,(vb Kx))] [(12916010,.box [(vs Qd),(vi Fw),(.sl p (M.map (aZ M p) ud)),(vi Ci)])] g nx ?_ ?_
             ·replace h:=hj
              cbv
              refine⟨?_,trivial⟩
              refine ab h fun B8 At h=>⟨_,_,_,us hc (kW hI hM At),?_⟩;cbv
              refine ab h fun Po HQ h=>⟨_,ai hM HQ rfl,?_⟩;cbv
              refine si h (fun h=>?_) fun h=>?_
              ·cbv
               refine⟨?_,trivial⟩
               cases h
               first|exact Or.inl rfl|exact bB
              cbv
              refine ab h fun x42 ac2 h=>?_
              refine ab h fun x43 R7 h=>?_
              refine ab h fun LM HP h=>?_
              apply Exists.intro;refine⟨?_,_,rfl,?_⟩
              ·cbv
               refine⟨_,ai hM ac2 rfl,?_⟩;cbv
               refine⟨_,ai hM R7 rfl,?_⟩;cbv
               refine⟨_,ai hM HP rfl,?_⟩;cbv
               refine⟨?_,trivial⟩
               refine⟨?_,trivial⟩
               all_goals exact .inl rfl
              cbv
              refine letE h fun MY Ay h=>⟨_,ak hI hM Ay,?_⟩;cbv
              refine lp h (fun Ph=>[(42,(vi Ph))]) (fun Ph=>[]) fun VL m6 qA Ph h=>?_
              dsimp only[j5]at h
              cbv
              refine si h (fun h=>?_) fun h=>?_
              ·cbv
               refine ab h fun LL HO h=>⟨_,ai hM HO rfl,?_⟩;cbv
               refine letE h fun Lr DI h=>⟨_,ak hI hM DI,?_⟩;cbv
               refine si h (fun h=>?_) fun h=>?_
               ·cbv
                refine ab h fun VP Mf h=>?_
                apply Exists.intro;refine⟨?_,_,rfl,?_⟩
                ·cbv
                 refine⟨?_,trivial⟩
                 refine⟨_,_,_,us hc (o7 hI hM Mf),?_⟩;cbv
                 refine⟨?_,trivial⟩
                 all_goals exact .inl rfl
                cbv
                refine⟨?_,trivial⟩
                cases h
                first|exact Or.inl rfl|exact bB
               cbv
               exact bN (qA _ _ h)
              cbv
              refine⟨?_,trivial⟩
              cases h
              first|exact Or.inl rfl|exact bB
             clear hj
             cbv
             refine ab h fun TY H0 h=>?_
             refine ab h fun Vr HN h=>?_
             refine ab h fun qP mn h=>?_
             refine ab h fun k60 Td h=>?_
             refine ab h fun x61 acY h=>?_
             refine ab h fun x62 acX h=>?_
             refine letE h fun MX DH h=>?_
             apply Exists.intro;refine⟨?_,_,rfl,?_⟩
             ·cbv
              (first|refine⟨_,⟨rfl,rfl,aM hI H0⟩,?_⟩|refine⟨_,aM hI H0,?_⟩)
              cbv
              refine⟨_,_,rfl,bc hM HN,rfl,?_⟩;cbv
              refine⟨_,ai hM mn rfl,?_⟩;cbv
              (first|refine⟨_,⟨rfl,rfl,aM hI Td⟩,?_⟩|refine⟨_,aM hI Td,?_⟩)
              cbv
              refine⟨_,_,rfl,bc hM acY,rfl,?_⟩;cbv
              refine⟨_,ai hM acX rfl,?_⟩;cbv
              refine⟨_,ak hI hM DH,?_⟩;cbv
              all_goals exact .inl rfl
             cbv
             refine letE h fun n64 ady h=>⟨_,ak hI hM ady,?_⟩;cbv
             refine lp h (fun(QI,QH)=>[(13,(vi QI)),(56,(vi QH))]) (fun _=>[]) fun Rm7 m7 vX st h=>?_
             obtain⟨QI,QH⟩:=st
             dsimp only[j4]at h
             cbv
             refine si h (fun h=>?_) fun h=>?_
             ·cbv
              refine ab h fun x67 acW h=>⟨_,ai hM acW rfl,?_⟩;cbv
              refine si h (fun h=>?_) fun h=>?_
              ·cbv
               exact bN (vX _ _ h)
              cbv
              exact bN (vX _ _ h)
             cbv
             refine letE h fun n70 adv h=>⟨_,ak hI hM adv,?_⟩;cbv
             refine⟨_,gH (enc:=an) (l:=[n70,QI,(I.wrap .i64 (I.sub (I.wrap .i64 (I.sub MX yE)) 1))]) hM ⟨⟨(af _),rfl⟩,⟨(af _),rfl⟩,⟨(af _),rfl⟩,trivial⟩,?_⟩;cbv
             refine ab h fun y71 acz h=>⟨_,fun hp=>us hc (dc hI hM (aw acz hp.1)),?_⟩;cbv
             refine si h (fun h=>?_) fun h=>?_
             ·as_aux_lemma=>
               cbv
               refine letE h fun n72 JP h=>⟨_,ak hI hM JP,?_⟩;cbv
               refine ab h fun TQ SQ h=>⟨_,_,dw (enc:=an) hI hM SQ (by decide) rfl,?_⟩;cbv
               refine letE h fun XI PV h=>?_
               refine letE h fun n75 adu h=>⟨_,_,fZ (enc:=an) hI hM PV adu rfl (fun _=>rfl) (fun _=>rfl),?_⟩;cbv
               refine⟨_,ak hI hM JP,?_⟩;cbv
               refine si h (fun h=>?_) fun h=>?_
               ·cbv
                refine ab h fun XG SP h=>?_
                apply Exists.intro;refine⟨?_,_,rfl,?_⟩
                ·cbv
                 refine⟨?_,trivial⟩
                 refine⟨?_,trivial⟩
                 refine⟨_,bJ (enc:=(aZ M r)) (x:=(⟨fu.kind,fu.name,fu.num,[]⟩:aL)) hM ⟨rfl,rfl,rfl,(aE hM),trivial⟩ rfl,?_⟩;cbv
                 refine⟨?_,trivial⟩
                 refine⟨_,au (enc:=(aZ M r)) hI hM SP (fun _=>rfl) rfl (fun _=>rfl),?_⟩;cbv
                 refine⟨?_,trivial⟩
                 all_goals exact .inl rfl
                cbv
                refine letE h fun Vv Ss h=>⟨_,ak hI hM Ss,?_⟩;cbv
                refine⟨?_,trivial⟩
                refine⟨_,bJ (enc:=an) (x:=(I.wrap .i64 (I.sub Vv 1))) hM (af _) rfl,?_⟩;cbv
                refine⟨?_,trivial⟩
                refine ab h fun Ih JU h=>⟨_,au (enc:=an) hI hM JU (fun _=>rfl) rfl (fun _=>rfl),?_⟩;cbv
                refine⟨?_,trivial⟩
                cases h
                first|exact Or.inl rfl|exact bB
               cbv
               refine ab h fun u79 ac9 h=>?_
               refine ab h fun l80 adS h=>?_
               apply Exists.intro;refine⟨?_,_,rfl,?_⟩
               ·cbv
                refine⟨?_,trivial⟩
                refine⟨?_,trivial⟩
                refine⟨_,bJ (enc:=(aZ M r)) (x:=(⟨fu.kind,fu.name,fu.num,XI⟩:aL)) hM ⟨rfl,rfl,rfl,(cX hM ac9),trivial⟩ rfl,?_⟩;cbv
                refine⟨?_,trivial⟩
                refine⟨_,au (enc:=(aZ M r)) hI hM adS (fun _=>rfl) rfl (fun _=>rfl),?_⟩;cbv
                refine⟨?_,trivial⟩
                all_goals exact .inl rfl
               cbv
               refine letE h fun n81 adt h=>⟨_,ak hI hM adt,?_⟩;cbv
               refine⟨?_,trivial⟩
               refine⟨_,bJ (enc:=an) (x:=(I.wrap .i64 (I.sub n81 1))) hM (af _) rfl,?_⟩;cbv
               refine⟨?_,trivial⟩
               refine ab h fun l82 adR h=>⟨_,au (enc:=an) hI hM adR (fun _=>rfl) rfl (fun _=>rfl),?_⟩;cbv
               refine⟨?_,trivial⟩
               cases h
               first|exact Or.inl rfl|exact bB
             cbv
             refine letE h fun Vu HS h=>⟨_,ak hI hM HS,?_⟩;cbv
             refine lp h (fun(BK,CV,Lo)=>[(90,(vi Lo))]) (fun(BK,CV,Lo)=>[(12915008,.box [(vs dR.head),(vi dR.kids),(.gs r (.c 12915008 2) (M.map (aZ M r) BK)),(vi 0),(.gs r (.c 12915008 4) (M.map an tY)),(.fn (.func 73) [(.aO q [(.sl p (M.map (ao M p) aW.blocks))] 0)])]),(12916086,.box [(vs ⟨#[]⟩),(vi 0),(.v dJ),(vi 0),(.gs r (.c 12916086 4) (M.map an CV)),(.v .nilFunc)])]) fun Rm8 m8 Co st h=>?_
             obtain⟨BK,CV,Lo⟩:=st
             dsimp only[j0]at h
             cbv
             refine si h (fun h=>?_) fun h=>?_
             ·as_aux_lemma=>
               cbv
               refine ab h fun B9 acS h=>⟨_,ai hM acS rfl,?_⟩;cbv
               refine si h (fun h=>?_) fun h=>?_
               ·cbv
                refine ab h fun ZP R0 h=>⟨_,ai hM R0 rfl,?_⟩;cbv
                refine⟨_,bJ (enc:=an) (x:=ZP) hM (af _) rfl,?_⟩;cbv
                refine ab h fun l89 adO h=>⟨_,au (enc:=an) hI hM adO (fun _=>rfl) rfl (fun _=>rfl),?_⟩;cbv
                exact bN (Co _ _ h)
               cbv
               refine si h (fun h=>?_) fun h=>?_
               ·cbv
                refine ab h fun x90 acR h=>?_
                refine ab h fun x91 acQ h=>?_
                refine ab h fun x92 acP h=>?_
                apply Exists.intro;refine⟨?_,_,rfl,?_⟩
                ·cbv
                 refine⟨_,ai hM acR rfl,?_⟩;cbv
                 refine⟨_,ai hM acQ rfl,?_⟩;cbv
                 refine⟨_,ai hM acP rfl,?_⟩;cbv
                 all_goals exact .inl rfl
                cbv
                refine⟨_,bJ (enc:=an) (x:=x92) hM (af _) rfl,?_⟩;cbv
                refine ab h fun l93 adL h=>⟨_,au (enc:=an) hI hM adL (fun _=>rfl) rfl (fun _=>rfl),?_⟩;cbv
                exact bN (Co _ _ h)
               cbv
               refine jV h fun j94 j95 hj h=>?_
               dsimp only at h
               refine aX none [(19,(vi j94)),(18,.any)] [(12915008,.box [(vs dR.head),(vi dR.kids),(.gs r (.c 12915008 2) (M.map (aZ M r) j95)),(vi 0),(.gs r (.c 12915008 4) (M.map an tY)),(.fn (.func 73) [(.aO q [(.sl p (M.map (ao M p) aW.blocks))] 0)])])] g nx ?_ ?_
               ·replace h:=hj
                cbv
                refine⟨?_,trivial⟩
                refine ab h fun y96 acx h=>⟨fun _=>rfl,(.sl r (M.map an y96)),g,nx,fun ρ=>by cbv;exact us hc (dN hI hM acx),?_⟩;cbv
                refine⟨?_,trivial⟩
                refine letE h fun n97 Sr h=>⟨_,ak hI hM Sr,?_⟩;cbv
                refine ab h fun l98 adJ h=>⟨_,_,dw (enc:=an) hI hM adJ (by decide) rfl,?_⟩;cbv
                refine letE h fun l99 adI h=>?_
                refine letE h fun aiN SM h=>⟨_,_,fZ (enc:=an) hI hM adI SM rfl (fun _=>rfl) (fun _=>rfl),?_⟩;cbv
                refine⟨_,ak hI hM Sr,?_⟩;cbv
                refine si h (fun h=>?_) fun h=>?_
                ·cbv
                 refine ab h fun XP Tb h=>?_
                 apply Exists.intro;refine⟨?_,_,rfl,?_⟩
                 ·cbv
                  refine⟨?_,trivial⟩
                  refine⟨?_,trivial⟩
                  refine⟨_,bJ (enc:=(aZ M r)) (x:=(⟨B9.kind,B9.name,B9.num,[]⟩:aL)) hM ⟨rfl,rfl,rfl,(aE hM),trivial⟩ rfl,?_⟩;cbv
                  refine⟨?_,trivial⟩
                  refine⟨_,au (enc:=(aZ M r)) hI hM Tb (fun _=>rfl) rfl (fun _=>rfl),?_⟩;cbv
                  refine⟨?_,trivial⟩
                  all_goals exact .inl rfl
                 cbv
                 refine letE h fun aeh SL h=>⟨_,ak hI hM SL,?_⟩;cbv
                 cases h
                 first|exact Or.inl rfl|exact bB
                cbv
                refine ab h fun ahJ Sq h=>?_
                refine ab h fun XO Ta h=>?_
                apply Exists.intro;refine⟨?_,_,rfl,?_⟩
                ·cbv
                 refine⟨?_,trivial⟩
                 refine⟨?_,trivial⟩
                 refine⟨_,bJ (enc:=(aZ M r)) (x:=(⟨B9.kind,B9.name,B9.num,l99⟩:aL)) hM ⟨rfl,rfl,rfl,(cX hM Sq),trivial⟩ rfl,?_⟩;cbv
                 refine⟨?_,trivial⟩
                 refine⟨_,au (enc:=(aZ M r)) hI hM Ta (fun _=>rfl) rfl (fun _=>rfl),?_⟩;cbv
                 refine⟨?_,trivial⟩
                 all_goals exact .inl rfl
                cbv
                refine letE h fun Ie DK h=>⟨_,ak hI hM DK,?_⟩;cbv
                cases h
                first|exact Or.inl rfl|exact bB
               clear hj
               cbv
               refine⟨_,bJ (enc:=an) (x:=j94) hM (af _) rfl,?_⟩;cbv
               refine ab h fun aer S9 h=>⟨_,au (enc:=an) hI hM S9 (fun _=>rfl) rfl (fun _=>rfl),?_⟩;cbv
               exact bN (Co _ _ h)
             cbv
             refine ab h fun Rh Sj h=>?_
             apply Exists.intro;refine⟨?_,_,rfl,?_⟩
             ·cbv
              refine⟨_,ai hM Sj rfl,?_⟩;cbv
              all_goals exact .inl rfl
             cbv
             refine⟨?_,trivial⟩
             refine⟨_,bJ (enc:=an) (x:=Rh) hM (af _) rfl,?_⟩;cbv
             refine⟨?_,trivial⟩
             refine ab h fun Ku DN h=>⟨_,au (enc:=an) hI hM DN (fun _=>rfl) rfl (fun _=>rfl),?_⟩;cbv
             refine⟨?_,trivial⟩
             cases h
             first|exact Or.inl rfl|exact bB
           cbv
           refine ab h fun aez JX h=>?_
           refine ab h fun abj Si h=>?_
           refine ab h fun abi Sh h=>?_
           refine ab h fun aey JW h=>?_
           refine ab h fun abh Sg h=>?_
           refine ab h fun abg Sf h=>?_
           refine letE h fun TG SG h=>?_
           apply Exists.intro;refine⟨?_,_,rfl,?_⟩
           ·cbv
            (first|refine⟨_,⟨rfl,rfl,aM hI JX⟩,?_⟩|refine⟨_,aM hI JX,?_⟩)
            cbv
            refine⟨_,_,rfl,bc hM Si,rfl,?_⟩;cbv
            refine⟨_,ai hM Sh rfl,?_⟩;cbv
            (first|refine⟨_,⟨rfl,rfl,aM hI JW⟩,?_⟩|refine⟨_,aM hI JW,?_⟩)
            cbv
            refine⟨_,_,rfl,bc hM Sg,rfl,?_⟩;cbv
            refine⟨_,ai hM Sf rfl,?_⟩;cbv
            refine⟨_,ak hI hM SG,?_⟩;cbv
            all_goals exact .inl rfl
           cbv
           refine⟨_,rfl,?_⟩;cbv
           refine lp h (fun _=>[]) (fun _=>[]) fun Rm9 m9 KQ st h=>?_
           dsimp only[jZ]at h
           cbv
           refine dk (eS hI (by decide)) ?_;cbv
           refine letE h fun TF SF h=>⟨_,ak hI hM SF,?_⟩;cbv
           refine⟨_,gH (enc:=an) (l:=[TF,0,(I.wrap .i64 (I.sub (I.wrap .i64 (I.sub TG yE)) 1))]) hM ⟨⟨(af _),rfl⟩,⟨(af _),rfl⟩,⟨(af _),rfl⟩,trivial⟩,?_⟩;cbv
           refine ab h fun abb RY h=>⟨_,fun hp=>us hc (dc hI hM (aw RY hp.1)),?_⟩;cbv
           refine si h (fun h=>?_) fun h=>?_
           ·as_aux_lemma=>
             cbv
             refine letE h fun XC JS h=>⟨_,ak hI hM JS,?_⟩;cbv
             refine ab h fun Qb S3 h=>⟨_,_,dw (enc:=an) hI hM S3 (by decide) rfl,?_⟩;cbv
             refine letE h fun Qa S2 h=>?_
             refine letE h fun aiL SD h=>⟨_,_,fZ (enc:=an) hI hM S2 SD rfl (fun _=>rfl) (fun _=>rfl),?_⟩;cbv
             refine⟨_,ak hI hM JS,?_⟩;cbv
             refine si h (fun h=>?_) fun h=>?_
             ·cbv
              refine ab h fun XM S1 h=>?_
              apply Exists.intro;refine⟨?_,_,rfl,?_⟩
              ·cbv
               refine⟨?_,trivial⟩
               refine⟨?_,trivial⟩
               refine⟨_,bJ (enc:=(aZ M r)) (x:=(⟨fu.kind,fu.name,fu.num,[]⟩:aL)) hM ⟨rfl,rfl,rfl,(aE hM),trivial⟩ rfl,?_⟩;cbv
               refine⟨?_,trivial⟩
               refine⟨_,au (enc:=(aZ M r)) hI hM S1 (fun _=>rfl) rfl (fun _=>rfl),?_⟩;cbv
               refine⟨?_,trivial⟩
               all_goals exact .inl rfl
              cbv
              refine letE h fun TE SC h=>⟨_,ak hI hM SC,?_⟩;cbv
              refine⟨?_,trivial⟩
              refine⟨_,bJ (enc:=an) (x:=(I.wrap .i64 (I.sub TE 1))) hM (af _) rfl,?_⟩;cbv
              refine⟨?_,trivial⟩
              refine ab h fun P9 Gh h=>⟨_,au (enc:=an) hI hM Gh (fun _=>rfl) rfl (fun _=>rfl),?_⟩;cbv
              refine⟨?_,trivial⟩
              cases h
              first|exact Or.inl rfl|exact bB
             cbv
             refine ab h fun ahH So h=>?_
             refine ab h fun P8 S0 h=>?_
             apply Exists.intro;refine⟨?_,_,rfl,?_⟩
             ·cbv
              refine⟨?_,trivial⟩
              refine⟨?_,trivial⟩
              refine⟨_,bJ (enc:=(aZ M r)) (x:=(⟨fu.kind,fu.name,fu.num,Qa⟩:aL)) hM ⟨rfl,rfl,rfl,(cX hM So),trivial⟩ rfl,?_⟩;cbv
              refine⟨?_,trivial⟩
              refine⟨_,au (enc:=(aZ M r)) hI hM S0 (fun _=>rfl) rfl (fun _=>rfl),?_⟩;cbv
              refine⟨?_,trivial⟩
              all_goals exact .inl rfl
             cbv
             refine letE h fun TD SB h=>⟨_,ak hI hM SB,?_⟩;cbv
             refine⟨?_,trivial⟩
             refine⟨_,bJ (enc:=an) (x:=(I.wrap .i64 (I.sub TD 1))) hM (af _) rfl,?_⟩;cbv
             refine⟨?_,trivial⟩
             refine ab h fun XL SZ h=>⟨_,au (enc:=an) hI hM SZ (fun _=>rfl) rfl (fun _=>rfl),?_⟩;cbv
             refine⟨?_,trivial⟩
             cases h
             first|exact Or.inl rfl|exact bB
           cbv
           refine⟨_,rfl,?_⟩;cbv
           refine lp h (fun _=>[]) (fun _=>[]) fun agI m10 GC st h=>?_
           dsimp only[jd]at h
           cbv
           refine dk (eS hI (by decide)) ?_;cbv
           cases h
          refine⟨?_,trivial⟩
          refine ab h fun uZ Au h=>⟨fun _=>rfl,(.sl r (M.map an uZ)),g,nx,fun ρ=>by cbv;exact us hc (kQ hI hM Au),?_⟩;cbv
          refine ab h fun Vo HH h=>⟨_,_,_,us hc (cZ hI hM HH),?_⟩;cbv
          refine si h (fun h=>?_) fun h=>?_
          ·as_aux_lemma=>
            cbv
            refine O9 h fun Kx Qd Fw ud Ci hj h=>?_
            dsimp only at h
            refine aX none [(11,(vb Kx))] [(12916010,.box [(vs Qd),(vi Fw),(.sl p (M.map (aZ M p) ud)),(vi Ci)])] g nx ?_ ?_
            ·replace h:=hj
             cbv
             refine⟨?_,trivial⟩
             refine ab h fun B8 At h=>⟨_,_,_,us hc (kW hI hM At),?_⟩;cbv
             refine ab h fun Po HQ h=>⟨_,ai hM HQ rfl,?_⟩;cbv
             refine si h (fun h=>?_) fun h=>?_
             ·cbv
              refine⟨?_,trivial⟩
              cases h
              first|exact Or.inl rfl|exact bB
             cbv
             refine ab h fun x42 ac2 h=>?_
             refine ab h fun x43 R7 h=>?_
             refine ab h fun LM HP h=>?_
             apply Exists.intro;refine⟨?_,_,rfl,?_⟩
             ·cbv
              refine⟨_,ai hM ac2 rfl,?_⟩;cbv
              refine⟨_,ai hM R7 rfl,?_⟩;cbv
              refine⟨_,ai hM HP rfl,?_⟩;cbv
              refine⟨?_,trivial⟩
              refine⟨?_,trivial⟩
              all_goals exact .inl rfl
             cbv
             refine letE h fun MY Ay h=>⟨_,ak hI hM Ay,?_⟩;cbv
             refine lp h (fun Ph=>[(42,(vi Ph))]) (fun Ph=>[]) fun VL m6 qA Ph h=>?_
             dsimp only[j5]at h
             cbv
             refine si h (fun h=>?_) fun h=>?_
             ·cbv
              refine ab h fun LL HO h=>⟨_,ai hM HO rfl,?_⟩;cbv
              refine letE h fun Lr DI h=>⟨_,ak hI hM DI,?_⟩;cbv
              refine si h (fun h=>?_) fun h=>?_
              ·cbv
               refine ab h fun VP Mf h=>?_
               apply Exists.intro;refine⟨?_,_,rfl,?_⟩
               ·cbv
                refine⟨?_,trivial⟩
                refine⟨_,_,_,us hc (o7 hI hM Mf),?_⟩;cbv
                refine⟨?_,trivial⟩
                all_goals exact .inl rfl
               cbv
               refine⟨?_,trivial⟩
               cases h
               first|exact Or.inl rfl|exact bB
              cbv
              exact bN (qA _ _ h)
             cbv
             refine⟨?_,trivial⟩
             cases h
             first|exact Or.inl rfl|exact bB
            clear hj
            cbv
            refine ab h fun TY H0 h=>?_
            refine ab h fun Vr HN h=>?_
            refine ab h fun qP mn h=>?_
            refine ab h fun k60 Td h=>?_
            refine ab h fun x61 acY h=>?_
            refine ab h fun x62 acX h=>?_
            refine letE h fun MX DH h=>?_
            apply Exists.intro;refine⟨?_,_,rfl,?_⟩
            ·cbv
             (first|refine⟨_,⟨rfl,rfl,aM hI H0⟩,?_⟩|refine⟨_,aM hI H0,?_⟩)
             cbv
             refine⟨_,_,rfl,bc hM HN,rfl,?_⟩;cbv
             refine⟨_,ai hM mn rfl,?_⟩;cbv
             (first|refine⟨_,⟨rfl,rfl,aM hI Td⟩,?_⟩|refine⟨_,aM hI Td,?_⟩)
             cbv
             refine⟨_,_,rfl,bc hM acY,rfl,?_⟩;cbv
             refine⟨_,ai hM acX rfl,?_⟩;cbv
             refine⟨_,ak hI hM DH,?_⟩;cbv
             all_goals exact .inl rfl
            cbv
            refine letE h fun n64 ady h=>⟨_,ak hI hM ady,?_⟩;cbv
            refine lp h (fun(QI,QH)=>[(13,(vi QI)),(56,(vi QH))]) (fun _=>[]) fun Rm7 m7 vX st h=>?_
            obtain⟨QI,QH⟩:=st
            dsimp only[j4]at h
            cbv
            refine si h (fun h=>?_) fun h=>?_
            ·cbv
             refine ab h fun x67 acW h=>⟨_,ai hM acW rfl,?_⟩;cbv
             refine si h (fun h=>?_) fun h=>?_
             ·cbv
              exact bN (vX _ _ h)
             cbv
             exact bN (vX _ _ h)
            cbv
            refine letE h fun n70 adv h=>⟨_,ak hI hM adv,?_⟩;cbv
            refine⟨_,gH (enc:=an) (l:=[n70,QI,(I.wrap .i64 (I.sub (I.wrap .i64 (I.sub MX yE)) 1))]) hM ⟨⟨(af _),rfl⟩,⟨(af _),rfl⟩,⟨(af _),rfl⟩,trivial⟩,?_⟩;cbv
            refine ab h fun y71 acz h=>⟨_,fun hp=>us hc (dc hI hM (aw acz hp.1)),?_⟩;cbv
            refine si h (fun h=>?_) fun h=>?_
            ·as_aux_lemma=>
              cbv
              refine letE h fun n72 JP h=>⟨_,ak hI hM JP,?_⟩;cbv
              refine ab h fun TQ SQ h=>⟨_,_,dw (enc:=an) hI hM SQ (by decide) rfl,?_⟩;cbv
              refine letE h fun XI PV h=>?_
              refine letE h fun n75 adu h=>⟨_,_,fZ (enc:=an) hI hM PV adu rfl (fun _=>rfl) (fun _=>rfl),?_⟩;cbv
              refine⟨_,ak hI hM JP,?_⟩;cbv
              refine si h (fun h=>?_) fun h=>?_
              ·cbv
               refine ab h fun XG SP h=>?_
               apply Exists.intro;refine⟨?_,_,rfl,?_⟩
               ·cbv
                refine⟨?_,trivial⟩
                refine⟨?_,trivial⟩
                refine⟨_,bJ (enc:=(aZ M r)) (x:=(⟨fu.kind,fu.name,fu.num,[]⟩:aL)) hM ⟨rfl,rfl,rfl,(aE hM),trivial⟩ rfl,?_⟩;cbv
                refine⟨?_,trivial⟩
                refine⟨_,au (enc:=(aZ M r)) hI hM SP (fun _=>rfl) rfl (fun _=>rfl),?_⟩;cbv
                refine⟨?_,trivial⟩
                all_goals exact .inl rfl
               cbv
               refine letE h fun Vv Ss h=>⟨_,ak hI hM Ss,?_⟩;cbv
               refine⟨?_,trivial⟩
               refine⟨_,bJ (enc:=an) (x:=(I.wrap .i64 (I.sub Vv 1))) hM (af _) rfl,?_⟩;cbv
               refine⟨?_,trivial⟩
               refine ab h fun Ih JU h=>⟨_,au (enc:=an) hI hM JU (fun _=>rfl) rfl (fun _=>rfl),?_⟩;cbv
               refine⟨?_,trivial⟩
               cases h
               first|exact Or.inl rfl|exact bB
              cbv
              refine ab h fun u79 ac9 h=>?_
              refine ab h fun l80 adS h=>?_
              apply Exists.intro;refine⟨?_,_,rfl,?_⟩
              ·cbv
               refine⟨?_,trivial⟩
               refine⟨?_,trivial⟩
               refine⟨_,bJ (enc:=(aZ M r)) (x:=(⟨fu.kind,fu.name,fu.num,XI⟩:aL)) hM ⟨rfl,rfl,rfl,(cX hM ac9),trivial⟩ rfl,?_⟩;cbv
               refine⟨?_,trivial⟩
               refine⟨_,au (enc:=(aZ M r)) hI hM adS (fun _=>rfl) rfl (fun _=>rfl),?_⟩;cbv
               refine⟨?_,trivial⟩
               all_goals exact .inl rfl
              cbv
              refine letE h fun n81 adt h=>⟨_,ak hI hM adt,?_⟩;cbv
              refine⟨?_,trivial⟩
              refine⟨_,bJ (enc:=an) (x:=(I.wrap .i64 (I.sub n81 1))) hM (af _) rfl,?_⟩;cbv
              refine⟨?_,trivial⟩
              refine ab h fun l82 adR h=>⟨_,au (enc:=an) hI hM adR (fun _=>rfl) rfl (fun _=>rfl),?_⟩;cbv
              refine⟨?_,trivial⟩
              cases h
              first|exact Or.inl rfl|exact bB
            cbv
            refine letE h fun Vu HS h=>⟨_,ak hI hM HS,?_⟩;cbv
            refine lp h (fun(BK,CV,Lo)=>[(90,(vi Lo))]) (fun(BK,CV,Lo)=>[(12915008,.box [(vs dR.head),(vi dR.kids),(.gs r (.c 12915008 2) (M.map (aZ M r) BK)),(vi 0),(.gs r (.c 12915008 4) (M.map an tY)),(.fn (.func 73) [(.aO q [(.sl p (M.map (ao M p) aW.blocks))] 0)])]),(12916086,.box [(vs ⟨#[]⟩),(vi 0),(.v dJ),(vi 0),(.gs r (.c 12916086 4) (M.map an CV)),(.v .nilFunc)])]) fun Rm8 m8 Co st h=>?_
            obtain⟨BK,CV,Lo⟩:=st
            dsimp only[j0]at h
            cbv
            refine si h (fun h=>?_) fun h=>?_
            ·as_aux_lemma=>
              cbv
              refine ab h fun B9 acS h=>⟨_,ai hM acS rfl,?_⟩;cbv
              refine si h (fun h=>?_) fun h=>?_
              ·cbv
               refine ab h fun ZP R0 h=>⟨_,ai hM R0 rfl,?_⟩;cbv
               refine⟨_,bJ (enc:=an) (x:=ZP) hM (af _) rfl,?_⟩;cbv
               refine ab h fun l89 adO h=>⟨_,au (enc:=an) hI hM adO (fun _=>rfl) rfl (fun _=>rfl),?_⟩;cbv
               exact bN (Co _ _ h)
              cbv
              refine si h (fun h=>?_) fun h=>?_
              ·cbv
               refine ab h fun x90 acR h=>?_
               refine ab h fun x91 acQ h=>?_
               refine ab h fun x92 acP h=>?_
               apply Exists.intro;refine⟨?_,_,rfl,?_⟩
               ·cbv
                refine⟨_,ai hM acR rfl,?_⟩;cbv
                refine⟨_,ai hM acQ rfl,?_⟩;cbv
                refine⟨_,ai hM acP rfl,?_⟩;cbv
                all_goals exact .inl rfl
               cbv
               refine⟨_,bJ (enc:=an) (x:=x92) hM (af _) rfl,?_⟩;cbv
               refine ab h fun l93 adL h=>⟨_,au (enc:=an) hI hM adL (fun _=>rfl) rfl (fun _=>rfl),?_⟩;cbv
               exact bN (Co _ _ h)
              cbv
              refine jV h fun j94 j95 hj h=>?_
              dsimp only at h
              refine aX none [(19,(vi j94)),(18,.any)] [(12915008,.box [(vs dR.head),(vi dR.kids),(.gs r (.c 12915008 2) (M.map (aZ M r) j95)),(vi 0),(.gs r (.c 12915008 4) (M.map an tY)),(.fn (.func 73) [(.aO q [(.sl p (M.map (ao M p) aW.blocks))] 0)])])] g nx ?_ ?_
              ·replace h:=hj
               cbv
               refine⟨?_,trivial⟩
               refine ab h fun y96 acx h=>⟨fun _=>rfl,(.sl r (M.map an y96)),g,nx,fun ρ=>by cbv;exact us hc (dN hI hM acx),?_⟩;cbv
               refine⟨?_,trivial⟩
               refine letE h fun n97 Sr h=>⟨_,ak hI hM Sr,?_⟩;cbv
               refine ab h fun l98 adJ h=>⟨_,_,dw (enc:=an) hI hM adJ (by decide) rfl,?_⟩;cbv
               refine letE h fun l99 adI h=>?_
               refine letE h fun aiN SM h=>⟨_,_,fZ (enc:=an) hI hM adI SM rfl (fun _=>rfl) (fun _=>rfl),?_⟩;cbv
               refine⟨_,ak hI hM Sr,?_⟩;cbv
               refine si h (fun h=>?_) fun h=>?_
               ·cbv
                refine ab h fun XP Tb h=>?_
                apply Exists.intro;refine⟨?_,_,rfl,?_⟩
                ·cbv
                 refine⟨?_,trivial⟩
                 refine⟨?_,trivial⟩
                 refine⟨_,bJ (enc:=(aZ M r)) (x:=(⟨B9.kind,B9.name,B9.num,[]⟩:aL)) hM ⟨rfl,rfl,rfl,(aE hM),trivial⟩ rfl,?_⟩;cbv
                 refine⟨?_,trivial⟩
                 refine⟨_,au (enc:=(aZ M r)) hI hM Tb (fun _=>rfl) rfl (fun _=>rfl),?_⟩;cbv
                 refine⟨?_,trivial⟩
                 all_goals exact .inl rfl
                cbv
                refine letE h fun aeh SL h=>⟨_,ak hI hM SL,?_⟩;cbv
                cases h
                first|exact Or.inl rfl|exact bB
               cbv
               refine ab h fun ahJ Sq h=>?_
               refine ab h fun XO Ta h=>?_
               apply Exists.intro;refine⟨?_,_,rfl,?_⟩
               ·cbv
                refine⟨?_,trivial⟩
                refine⟨?_,trivial⟩
                refine⟨_,bJ (enc:=(aZ M r)) (x:=(⟨B9.kind,B9.name,B9.num,l99⟩:aL)) hM ⟨rfl,rfl,rfl,(cX hM Sq),trivial⟩ rfl,?_⟩;cbv
                refine⟨?_,trivial⟩
                refine⟨_,au (enc:=(aZ M r)) hI hM Ta (fun _=>rfl) rfl (fun _=>rfl),?_⟩;cbv
                refine⟨?_,trivial⟩
                all_goals exact .inl rfl
               cbv
               refine letE h fun Ie DK h=>⟨_,ak hI hM DK,?_⟩;cbv
               cases h
               first|exact Or.inl rfl|exact bB
              clear hj
              cbv
              refine⟨_,bJ (enc:=an) (x:=j94) hM (af _) rfl,?_⟩;cbv
              refine ab h fun aer S9 h=>⟨_,au (enc:=an) hI hM S9 (fun _=>rfl) rfl (fun _=>rfl),?_⟩;cbv
              exact bN (Co _ _ h)
            cbv
            refine ab h fun Rh Sj h=>?_
            apply Exists.intro;refine⟨?_,_,rfl,?_⟩
            ·cbv
             refine⟨_,ai hM Sj rfl,?_⟩;cbv
             all_goals exact .inl rfl
            cbv
            refine⟨?_,trivial⟩
            refine⟨_,bJ (enc:=an) (x:=Rh) hM (af _) rfl,?_⟩;cbv
            refine⟨?_,trivial⟩
            refine ab h fun Ku DN h=>⟨_,au (enc:=an) hI hM DN (fun _=>rfl) rfl (fun _=>rfl),?_⟩;cbv
            refine⟨?_,trivial⟩
            cases h
            first|exact Or.inl rfl|exact bB
          cbv
          refine ab h fun aez JX h=>?_
          refine ab h fun abj Si h=>?_
          refine ab h fun abi Sh h=>?_
          refine ab h fun aey JW h=>?_
          refine ab h fun abh Sg h=>?_
          refine ab h fun abg Sf h=>?_
          refine letE h fun TG SG h=>?_
          apply Exists.intro;refine⟨?_,_,rfl,?_⟩
          ·cbv
           (first|refine⟨_,⟨rfl,rfl,aM hI JX⟩,?_⟩|refine⟨_,aM hI JX,?_⟩)
           cbv
           refine⟨_,_,rfl,bc hM Si,rfl,?_⟩;cbv
           refine⟨_,ai hM Sh rfl,?_⟩;cbv
           (first|refine⟨_,⟨rfl,rfl,aM hI JW⟩,?_⟩|refine⟨_,aM hI JW,?_⟩)
           cbv
           refine⟨_,_,rfl,bc hM Sg,rfl,?_⟩;cbv
           refine⟨_,ai hM Sf rfl,?_⟩;cbv
           refine⟨_,ak hI hM SG,?_⟩;cbv
           all_goals exact .inl rfl
          cbv
          refine⟨_,rfl,?_⟩;cbv
          refine lp h (fun _=>[]) (fun _=>[]) fun Rm9 m9 KQ st h=>?_
          dsimp only[jZ]at h
          cbv
          refine dk (eS hI (by decide)) ?_;cbv
          refine letE h fun TF SF h=>⟨_,ak hI hM SF,?_⟩;cbv
          refine⟨_,gH (enc:=an) (l:=[TF,0,(I.wrap .i64 (I.sub (I.wrap .i64 (I.sub TG yE)) 1))]) hM ⟨⟨(af _),rfl⟩,⟨(af _),rfl⟩,⟨(af _),rfl⟩,trivial⟩,?_⟩;cbv
          refine ab h fun abb RY h=>⟨_,fun hp=>us hc (dc hI hM (aw RY hp.1)),?_⟩;cbv
          refine si h (fun h=>?_) fun h=>?_
          ·as_aux_lemma=>
            cbv
            refine letE h fun XC JS h=>⟨_,ak hI hM JS,?_⟩;cbv
            refine ab h fun Qb S3 h=>⟨_,_,dw (enc:=an) hI hM S3 (by decide) rfl,?_⟩;cbv
            refine letE h fun Qa S2 h=>?_
            refine letE h fun aiL SD h=>⟨_,_,fZ (enc:=an) hI hM S2 SD rfl (fun _=>rfl) (fun _=>rfl),?_⟩;cbv
            refine⟨_,ak hI hM JS,?_⟩;cbv
            refine si h (fun h=>?_) fun h=>?_
            ·cbv
             refine ab h fun XM S1 h=>?_
             apply Exists.intro;refine⟨?_,_,rfl,?_⟩
             ·cbv
              refine⟨?_,trivial⟩
              refine⟨?_,trivial⟩
              refine⟨_,bJ (enc:=(aZ M r)) (x:=(⟨fu.kind,fu.name,fu.num,[]⟩:aL)) hM ⟨rfl,rfl,rfl,(aE hM),trivial⟩ rfl,?_⟩;cbv
              refine⟨?_,trivial⟩
              refine⟨_,au (enc:=(aZ M r)) hI hM S1 (fun _=>rfl) rfl (fun _=>rfl),?_⟩;cbv
              refine⟨?_,trivial⟩
              all_goals exact .inl rfl
             cbv
             refine letE h fun TE SC h=>⟨_,ak hI hM SC,?_⟩;cbv
             refine⟨?_,trivial⟩
             refine⟨_,bJ (enc:=an) (x:=(I.wrap .i64 (I.sub TE 1))) hM (af _) rfl,?_⟩;cbv
             refine⟨?_,trivial⟩
             refine ab h fun P9 Gh h=>⟨_,au (enc:=an) hI hM Gh (fun _=>rfl) rfl (fun _=>rfl),?_⟩;cbv
             refine⟨?_,trivial⟩
             cases h
             first|exact Or.inl rfl|exact bB
            cbv
            refine ab h fun ahH So h=>?_
            refine ab h fun P8 S0 h=>?_
            apply Exists.intro;refine⟨?_,_,rfl,?_⟩
            ·cbv
             refine⟨?_,trivial⟩
             refine⟨?_,trivial⟩
             refine⟨_,bJ (enc:=(aZ M r)) (x:=(⟨fu.kind,fu.name,fu.num,Qa⟩:aL)) hM ⟨rfl,rfl,rfl,(cX hM So),trivial⟩ rfl,?_⟩;cbv
             refine⟨?_,trivial⟩
             refine⟨_,au (enc:=(aZ M r)) hI hM S0 (fun _=>rfl) rfl (fun _=>rfl),?_⟩;cbv
             refine⟨?_,trivial⟩
             all_goals exact .inl rfl
            cbv
            refine letE h fun TD SB h=>⟨_,ak hI hM SB,?_⟩;cbv
            refine⟨?_,trivial⟩
            refine⟨_,bJ (enc:=an) (x:=(I.wrap .i64 (I.sub TD 1))) hM (af _) rfl,?_⟩;cbv
            refine⟨?_,trivial⟩
            refine ab h fun XL SZ h=>⟨_,au (enc:=an) hI hM SZ (fun _=>rfl) rfl (fun _=>rfl),?_⟩;cbv
            refine⟨?_,trivial⟩
            cases h
            first|exact Or.inl rfl|exact bB
          cbv
          refine⟨_,rfl,?_⟩;cbv
          refine lp h (fun _=>[]) (fun _=>[]) fun agI m10 GC st h=>?_
          dsimp only[jd]at h
          cbv
          refine dk (eS hI (by decide)) ?_;cbv
          cases h
         clear hj
         cbv
         exact bN (qB _ _ h)
       cbv
       refine ab h fun abe ah8 h=>?_
       apply Exists.intro;refine⟨?_,_,rfl,?_⟩
       ·cbv
        refine⟨_,ai hM ah8 rfl,?_⟩;cbv
        refine⟨?_,trivial⟩
        all_goals exact .inl rfl
       cbv
       refine ab h fun ai9 Z5 h=>?_
       (first|refine⟨_,⟨rfl,rfl,aM hI Z5⟩,?_⟩|refine⟨_,aM hI Z5,?_⟩)
       cbv
       refine ab h fun ahC ah7 h=>⟨_,_,rfl,bc hM ah7,rfl,?_⟩;cbv
       refine ab h fun aew aip h=>⟨_,bS hI hM aip,?_⟩;cbv
       refine ab h fun VV Sd h=>?_
       refine ab h fun ai0 aii h=>?_
       refine ab h fun aiZ Z4 h=>?_
       apply Exists.intro;refine⟨?_,_,rfl,?_⟩
       ·cbv
        refine⟨_,_,_,⟨rfl,bc (enc:=(ao M r)) hM Sd,rfl,rfl⟩,?_⟩;cbv
        refine⟨?_,trivial⟩
        refine⟨_,bJ (enc:=(az M r)) (x:=(⟨dR.head,dR.kids,py,abe⟩:ae)) hM (af _) rfl,?_⟩;cbv
        refine⟨?_,trivial⟩
        refine⟨_,au (enc:=(az M r)) hI hM aii (fun _=>rfl) rfl (fun _=>rfl),?_⟩;cbv
        refine⟨?_,trivial⟩
        (first|refine⟨_,rO (enc:=(ao M r)) hI hM Sd Z4 (show 2<3 from by decide) rfl,?_⟩|refine⟨rfl,rfl,rfl,_,rO (enc:=(ao M r)) hI hM Sd Z4 (show 2<3 from by decide) rfl,?_⟩)
        cbv
        all_goals exact .inl rfl
       cbv
       try(refine⟨rfl,?_⟩;cbv)
       refine lZ hI ?_;cbv
       exact bN (qC _ _ h)
     cbv
     exact bN (iI _ _ h)
   cbv
   try(refine⟨rfl,?_⟩;cbv)
   refine ab h fun amt aid h=>?_
   obtain rfl:=Option.some.inj h
   cbv
   all_goals(repeat' apply And.intro)
   all_goals first|trivial|rfl|exact(aE hM)|exact(cX hM aid)
 cbv
 cases h
end Ab
