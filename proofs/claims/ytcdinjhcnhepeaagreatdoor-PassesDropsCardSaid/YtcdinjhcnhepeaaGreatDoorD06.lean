/- PassesDrops holds of every core (no condition): a part of the proof: an abstract interpreter of the code that is proved sound, models of the functions, and laws of these models. -/
import Derived.Test.YtcdinjhcnhepeaaGreatDoorD02
import Derived.Test.YtcdinjhcnhepeaaGreatDoorD03
import Derived.Test.YtcdinjhcnhepeaaGreatDoorD04
set_option linter.unusedVariables false
set_option linter.unusedSimpArgs false
namespace Ab
open Go Go.Proofs.Tryz
set_option maxHeartbeats 100000000
set_option maxRecDepth 100000
variable{I:Pr}(hI:I=al){M:Md}(hM:M= .al){n nx r s p q u rl:Nat}{g:Nat→Option Ob}
 include hI hM
theorem zJ{a0:ah}{v:ah}(h:vA I M n a0=some v):
  bO 50 [(.agg (ba M r a0)),(.fn (.func 87) []),(.fn (.func 122) [])] (.agg (ba M r v)) g nx:=by
 refine yp func50 c50 r Rx UU [1031,2097] 107 ntmps50 [.cell 6 24] hI (bk.cons (qE r) (bk.cons (UF r) (bk.cons (uj r) (bk.cons (OW r) (bk.cons (uk r) (tF PP fD)))))) 8 fun call hc=>?_
 cbv
 refine letE h fun n1 cH h=>⟨_,ak hI hM cH,?_⟩;cbv
 refine ic n (fun ju aS=>?_);cbv
 refine si h (fun h=>?_) fun h=>?_
 ·as_aux_lemma=>
   cbv
   refine ab h fun x2 Of h=>⟨_,ai hM Of rfl,?_⟩;cbv
   refine⟨_,Pa (by rfl),?_⟩;cbv
   refine ab h fun l3 Og h=>⟨qm hI Og,_,_,xV (enc:=(ao M r)) hI hM Og (by have e0:=aE (enc:=(az M r)) hM;simp only[ao,vi,vs,vb,bY,dL,e0]),?_⟩;cbv
   refine aS _ (lpD h [9] (fun(l4,z5)=>[(19,(vi z5)),(20,.any)]) (fun(l4,z5)=>[(7,.box [(.ia (.s 31) (M.ln l4))]),(31,.ow (.sl 3) none (M.map (ao M r) l4))]) fun Bc m2 cI st h=>?_)
   obtain⟨l4,z5⟩:=st
   dsimp only[sE]at h
   cbv
   refine si h (fun h=>?_) fun h=>?_
   ·cbv
    refine ab h fun x6 wP h=>⟨_,ai hM wP rfl,?_⟩;cbv
    refine⟨_,Pa (by rfl),?_⟩;cbv
    refine ab h fun l7 ql7 h=>?_
    (refine⟨_,_,DR (enc:=(ao M r)) hI hM ql7 ?_,?_⟩;next=>have e0:=aE (enc:=(az M r)) hM;simp only[ao,vi,vs,vb,bY,dL,e0])
    cbv
    exact bN (cI _ _ h)
   cbv
   intro l
   cbv
   refine letE h fun Kh HV h=>⟨_,ak hI hM HV,?_⟩;cbv
   refine lp h (fun(I2,LC)=>[(10,(vi LC))]) (fun(I2,LC)=>[(31,.ow (.sl 3) none (M.map (ao M r) I2))]) fun NJ m3 iI st h=>?_
   obtain⟨I2,LC⟩:=st
   dsimp only[sD]at h
   cbv
   refine si h (fun h=>?_) fun h=>?_
   ·as_aux_lemma=>
     cbv
     refine ab h fun Bi xe h=>⟨_,ai hM xe rfl,?_⟩;cbv
     refine letE h fun Kg MB h=>⟨_,ak hI hM MB,?_⟩;cbv
     refine lp h (fun(xh,jW)=>[(18,(vi jW))]) (fun(xh,jW)=>[(31,.ow (.sl 3) none (M.map (ao M r) xh))]) fun Q5 m4 qC st h=>?_
     obtain⟨xh,jW⟩:=st
     dsimp only[sC]at h
     cbv
     refine si h (fun h=>?_) fun h=>?_
     ·as_aux_lemma=>
       cbv
       refine ab h fun qS Aw h=>⟨_,ai hM Aw rfl,?_⟩;cbv
       try(refine⟨⟨rfl,rfl,rfl⟩,?_⟩;cbv)
       refine letE h fun qQ SW h=>⟨_,⟨rfl,iw (enc:=an) hI hM SW rfl⟩,?_⟩;cbv
       refine ab h fun u19 Xk h=>?_
       (first|refine⟨_,⟨aT hI hM Xk,rN (enc:=an) (l:=[LC,jW]) hI hM rfl⟩,?_⟩|refine⟨_,⟨rfl,aT hI hM Xk,rfl,rfl,rN (enc:=an) (l:=[LC,jW]) hI hM rfl⟩,?_⟩)
       cbv
       try(refine⟨rfl,?_⟩;cbv)
       refine ab h fun u20 PQ h=>?_
       (first|refine⟨⟨rfl,aT hI hM PQ,rfl⟩,?_⟩|refine⟨⟨aT hI hM PQ,trivial⟩,?_⟩|refine⟨aT hI hM PQ,?_⟩)
       cbv
       try(refine⟨⟨by decide,by decide⟩,?_⟩;cbv)
       apply Exists.intro;refine⟨?_,_,rfl,?_⟩
       ·cbv
        refine⟨?_,?_⟩
        ·refine⟨?_,trivial⟩
         refine⟨?_,trivial⟩
         all_goals exact .inl rfl
        refine⟨?_,trivial⟩
        refine⟨?_,trivial⟩
        all_goals exact .inl rfl
       cbv
       refine letE h fun n21 anf h=>⟨_,ak hI hM anf,?_⟩;cbv
       refine lp h (fun(QT,wU,QK)=>[(56,(vi QK))]) (fun(QT,wU,QK)=>[(87004,.box [(vs qS.head),(vi qS.kids),(.gs r (.c 87004 2) (M.map (aZ M r) QT)),(vi 0),(.gs r (.c 87004 4) (M.map an wU)),(.v .nilFunc)])]) fun Q4 m5 qB st h=>?_
       obtain⟨QT,wU,QK⟩:=st
       dsimp only[sB]at h
       cbv
       refine si h (fun h=>?_) fun h=>?_
       ·as_aux_lemma=>
         cbv
         refine ab h fun Ad Mq h=>⟨_,ai hM Mq rfl,?_⟩;cbv
         refine jV h fun j26 j27 hj h=>?_
         dsimp only at h
         refine aX none [(13,.any),(14,.any)] [(87004,.box [(vs qS.head),(vi qS.kids),(.gs r (.c 87004 2) (M.map (aZ M r) j26)),(vi 0),(.gs r (.c 87004 4) (M.map an j27)),(.v .nilFunc)])] g nx ?_ ?_
         ·replace h:=hj
          cbv
          refine⟨?_,?_⟩
          ·refine⟨?_,trivial⟩
           refine jV h fun j28 XT hj h=>?_
           dsimp only at h
           refine aX none [(6,(vi j28)),(0,.any),(5,.any)] [(87004,.box [(vs qS.head),(vi qS.kids),(.gs r (.c 87004 2) (M.map (aZ M r) XT)),(vi 0),(.gs r (.c 87004 4) (M.map an wU)),(.v .nilFunc)])] g nx ?_ ?_
           ·replace h:=hj
            cbv
            refine⟨?_,trivial⟩
            refine ab h fun EZ DE h=>⟨fun _=>rfl,(.sl r (M.map an EZ)),g,nx,fun ρ=>by cbv;exact us hc (aC hI hM DE),?_⟩;cbv
            refine⟨?_,trivial⟩
            refine letE h fun Xy Mz h=>⟨_,ak hI hM Mz,?_⟩;cbv
            refine ab h fun Ij ad4 h=>⟨_,_,dw (enc:=an) hI hM ad4 (by decide) rfl,?_⟩;cbv
            refine letE h fun Gv ad3 h=>?_
            refine letE h fun n34 adE h=>⟨_,_,fZ (enc:=an) hI hM ad3 adE rfl (fun _=>rfl) (fun _=>rfl),?_⟩;cbv
            refine⟨_,ak hI hM Mz,?_⟩;cbv
            refine si h (fun h=>?_) fun h=>?_
            ·cbv
             refine ab h fun l35 MK h=>?_
             apply Exists.intro;refine⟨?_,_,rfl,?_⟩
             ·cbv
              refine⟨?_,trivial⟩
              refine⟨?_,trivial⟩
              refine⟨_,bJ (enc:=(aZ M r)) (x:=(⟨Ad.kind,Ad.name,Ad.num,[]⟩:aL)) hM ⟨rfl,rfl,rfl,(aE hM),trivial⟩ rfl,?_⟩;cbv
              refine⟨?_,trivial⟩
              refine⟨_,au (enc:=(aZ M r)) hI hM MK (fun _=>rfl) rfl (fun _=>rfl),?_⟩;cbv
              refine⟨?_,trivial⟩
              all_goals exact .inl rfl
             cbv
             refine letE h fun n36 adD h=>⟨_,ak hI hM adD,?_⟩;cbv
             cases h
             first|exact Or.inl rfl|exact bB
            cbv
            refine ab h fun u37 adk h=>?_
            refine ab h fun l38 SV h=>?_
            apply Exists.intro;refine⟨?_,_,rfl,?_⟩
            ·cbv
             refine⟨?_,trivial⟩
             refine⟨?_,trivial⟩
             refine⟨_,bJ (enc:=(aZ M r)) (x:=(⟨Ad.kind,Ad.name,Ad.num,Gv⟩:aL)) hM ⟨rfl,rfl,rfl,(cX hM adk),trivial⟩ rfl,?_⟩;cbv
             refine⟨?_,trivial⟩
             refine⟨_,au (enc:=(aZ M r)) hI hM SV (fun _=>rfl) rfl (fun _=>rfl),?_⟩;cbv
             refine⟨?_,trivial⟩
             all_goals exact .inl rfl
            cbv
            refine letE h fun n39 adC h=>⟨_,ak hI hM adC,?_⟩;cbv
            cases h
            first|exact Or.inl rfl|exact bB
           clear hj
           cbv
           refine⟨?_,trivial⟩
           refine⟨_,bJ (enc:=an) (x:=j28) hM (af _) rfl,?_⟩;cbv
           refine⟨?_,trivial⟩
           refine ab h fun l40 ad1 h=>⟨_,au (enc:=an) hI hM ad1 (fun _=>rfl) rfl (fun _=>rfl),?_⟩;cbv
           refine⟨?_,trivial⟩
           cases h
           first|exact Or.inl rfl|exact bB
          refine⟨?_,trivial⟩
          refine jV h fun j28 XT hj h=>?_
          dsimp only at h
          refine aX none [(6,(vi j28)),(0,.any),(5,.any)] [(87004,.box [(vs qS.head),(vi qS.kids),(.gs r (.c 87004 2) (M.map (aZ M r) XT)),(vi 0),(.gs r (.c 87004 4) (M.map an wU)),(.v .nilFunc)])] g nx ?_ ?_
          ·replace h:=hj
           cbv
           refine⟨?_,trivial⟩
           refine ab h fun EZ DE h=>⟨fun _=>rfl,(.sl r (M.map an EZ)),g,nx,fun ρ=>by cbv;exact us hc (aC hI hM DE),?_⟩;cbv
           refine⟨?_,trivial⟩
           refine letE h fun Xy Mz h=>⟨_,ak hI hM Mz,?_⟩;cbv
           refine ab h fun Ij ad4 h=>⟨_,_,dw (enc:=an) hI hM ad4 (by decide) rfl,?_⟩;cbv
           refine letE h fun Gv ad3 h=>?_
           refine letE h fun n34 adE h=>⟨_,_,fZ (enc:=an) hI hM ad3 adE rfl (fun _=>rfl) (fun _=>rfl),?_⟩;cbv
           refine⟨_,ak hI hM Mz,?_⟩;cbv
           refine si h (fun h=>?_) fun h=>?_
           ·cbv
            refine ab h fun l35 MK h=>?_
            apply Exists.intro;refine⟨?_,_,rfl,?_⟩
            ·cbv
             refine⟨?_,trivial⟩
             refine⟨?_,trivial⟩
             refine⟨_,bJ (enc:=(aZ M r)) (x:=(⟨Ad.kind,Ad.name,Ad.num,[]⟩:aL)) hM ⟨rfl,rfl,rfl,(aE hM),trivial⟩ rfl,?_⟩;cbv
             refine⟨?_,trivial⟩
             refine⟨_,au (enc:=(aZ M r)) hI hM MK (fun _=>rfl) rfl (fun _=>rfl),?_⟩;cbv
             refine⟨?_,trivial⟩
             all_goals exact .inl rfl
            cbv
            refine letE h fun n36 adD h=>⟨_,ak hI hM adD,?_⟩;cbv
            cases h
            first|exact Or.inl rfl|exact bB
           cbv
           refine ab h fun u37 adk h=>?_
           refine ab h fun l38 SV h=>?_
           apply Exists.intro;refine⟨?_,_,rfl,?_⟩
           ·cbv
            refine⟨?_,trivial⟩
            refine⟨?_,trivial⟩
            refine⟨_,bJ (enc:=(aZ M r)) (x:=(⟨Ad.kind,Ad.name,Ad.num,Gv⟩:aL)) hM ⟨rfl,rfl,rfl,(cX hM adk),trivial⟩ rfl,?_⟩;cbv
            refine⟨?_,trivial⟩
            refine⟨_,au (enc:=(aZ M r)) hI hM SV (fun _=>rfl) rfl (fun _=>rfl),?_⟩;cbv
            refine⟨?_,trivial⟩
            all_goals exact .inl rfl
           cbv
           refine letE h fun n39 adC h=>⟨_,ak hI hM adC,?_⟩;cbv
           cases h
           first|exact Or.inl rfl|exact bB
          clear hj
          cbv
          refine⟨?_,trivial⟩
          refine⟨_,bJ (enc:=an) (x:=j28) hM (af _) rfl,?_⟩;cbv
          refine⟨?_,trivial⟩
          refine ab h fun l40 ad1 h=>⟨_,au (enc:=an) hI hM ad1 (fun _=>rfl) rfl (fun _=>rfl),?_⟩;cbv
          refine⟨?_,trivial⟩
          cases h
          first|exact Or.inl rfl|exact bB
         clear hj
         cbv
         exact bN (qB _ _ h)
       cbv
       refine ab h fun LM HP h=>?_
       apply Exists.intro;refine⟨?_,_,rfl,?_⟩
       ·cbv
        refine⟨_,ai hM HP rfl,?_⟩;cbv
        refine⟨?_,trivial⟩
        all_goals exact .inl rfl
       cbv
       refine ab h fun k45 aim h=>?_
       (first|refine⟨_,⟨rfl,rfl,aM hI aim⟩,?_⟩|refine⟨_,aM hI aim,?_⟩)
       cbv
       refine ab h fun x46 amO h=>⟨_,_,rfl,bc hM amO,rfl,?_⟩;cbv
       refine ab h fun k47 anz h=>⟨_,bS hI hM anz,?_⟩;cbv
       refine ab h fun ZT Mo h=>?_
       refine ab h fun TS HY h=>?_
       refine ab h fun QQ PX h=>?_
       apply Exists.intro;refine⟨?_,_,rfl,?_⟩
       ·cbv
        refine⟨_,_,_,⟨rfl,bc (enc:=(ao M r)) hM Mo,rfl,rfl⟩,?_⟩;cbv
        refine⟨?_,trivial⟩
        refine⟨_,bJ (enc:=(az M r)) (x:=(⟨qS.head,qS.kids,QT,LM⟩:ae)) hM (af _) rfl,?_⟩;cbv
        refine⟨?_,trivial⟩
        refine⟨_,au (enc:=(az M r)) hI hM HY (fun _=>rfl) rfl (fun _=>rfl),?_⟩;cbv
        refine⟨?_,trivial⟩
        (first|refine⟨_,rO (enc:=(ao M r)) hI hM Mo PX (show 2<3 from by decide) rfl,?_⟩|refine⟨rfl,rfl,rfl,_,rO (enc:=(ao M r)) hI hM Mo PX (show 2<3 from by decide) rfl,?_⟩)
        cbv
        all_goals exact .inl rfl
       cbv
       try(refine⟨rfl,?_⟩;cbv)
       refine lZ hI ?_;cbv
       exact bN (qC _ _ h)
     cbv
     exact bN (iI _ _ h)
   cbv
   try(refine⟨rfl,?_⟩;cbv)
   refine ab h fun u55 am1 h=>?_
   obtain rfl:=Option.some.inj h
   cbv
   all_goals(repeat' apply And.intro)
   all_goals first|trivial|rfl|exact(aE hM)|exact(cX hM am1)
 cbv
 cases h
end Ab
