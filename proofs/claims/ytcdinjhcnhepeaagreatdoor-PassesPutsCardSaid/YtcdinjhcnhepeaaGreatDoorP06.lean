/- PassesPuts holds of every core (no condition): a part of the proof: an abstract interpreter of the code that is proved sound, models of the functions, and laws of these models. -/
import Derived.Test.YtcdinjhcnhepeaaGreatDoorP02
import Derived.Test.YtcdinjhcnhepeaaGreatDoorP03
import Derived.Test.YtcdinjhcnhepeaaGreatDoorP04
set_option linter.unusedVariables false
set_option linter.unusedSimpArgs false
namespace Ab
open Go Go.Proofs.Tryz
set_option maxHeartbeats 100000000
set_option maxRecDepth 100000
variable{I:Pr}(hI:I=an){M:Md}(hM:M= .an){n nx r s p q u rl:Nat}{g:Nat→Option Ob}
 include hI hM
theorem zy{a0:ai}{v:ai}(h:uH I M n a0=some v):
  bQ 50 [(.agg (aX M r a0)),(.fn (.func 87) []),(.fn (.func 122) [])] (.agg (aX M r v)) g nx:=by
 refine yc func50 c50 r QW Um [1031,2097] 107 ntmps50 [.cell 6 24] hI (bh.cons (pX r) (bh.cons (Ua r) (bh.cons (tg r) (bh.cons (Oc r) (bh.cons (th r) (sL PP fQ)))))) 8 fun call hc=>?_
 cbv
 refine letE h fun n1 cY h=>⟨_,ak hI hM cY,?_⟩;cbv
 refine iu n (fun jJ aQ=>?_);cbv
 refine si h (fun h=>?_) fun h=>?_
 ·as_aux_lemma=>
   cbv
   refine ae h fun x2 NC h=>⟨_,al hM NC rfl,?_⟩;cbv
   refine⟨_,Ou (by rfl),?_⟩;cbv
   refine ae h fun l3 ND h=>⟨pM hI ND,_,_,xF (enc:=(aq M r)) hI hM ND (by have e0:=aH (enc:=(az M r)) hM;simp only[aq,vi,vs,vb,b8,dS,e0]),?_⟩;cbv
   refine aQ _ (lpD h [9] (fun(l4,z5)=>[(19,(vi z5)),(20,.any)]) (fun(l4,z5)=>[(7,.box [(.iq (.s 31) (M.ln l4))]),(31,.ow (.sl 3) none (M.map (aq M r) l4))]) fun AO m2 cS st h=>?_)
   obtain⟨l4,z5⟩:=st
   dsimp only[r3]at h
   cbv
   refine si h (fun h=>?_) fun h=>?_
   ·cbv
    refine ae h fun x6 v8 h=>⟨_,al hM v8 rfl,?_⟩;cbv
    refine⟨_,Ou (by rfl),?_⟩;cbv
    refine ae h fun l7 ZB h=>?_
    (refine⟨_,_,DB (enc:=(aq M r)) hI hM ZB ?_,?_⟩;next=>have e0:=aH (enc:=(az M r)) hM;simp only[aq,vi,vs,vb,b8,dS,e0])
    cbv
    exact bN (cS _ _ h)
   cbv
   intro l
   cbv
   refine letE h fun JJ Hu h=>⟨_,ak hI hM Hu,?_⟩;cbv
   refine lp h (fun(IB,K4)=>[(10,(vi K4))]) (fun(IB,K4)=>[(31,.ow (.sl 3) none (M.map (aq M r) IB))]) fun M6 m3 jE st h=>?_
   obtain⟨IB,K4⟩:=st
   dsimp only[rZ]at h
   cbv
   refine si h (fun h=>?_) fun h=>?_
   ·as_aux_lemma=>
     cbv
     refine ae h fun CL yJ h=>⟨_,al hM yJ rfl,?_⟩;cbv
     refine letE h fun JI LU h=>⟨_,ak hI hM LU,?_⟩;cbv
     refine lp h (fun(wH,jV)=>[(18,(vi jV))]) (fun(wH,jV)=>[(31,.ow (.sl 3) none (M.map (aq M r) wH))]) fun Qt m4 pW st h=>?_
     obtain⟨wH,jV⟩:=st
     dsimp only[rY]at h
     cbv
     refine si h (fun h=>?_) fun h=>?_
     ·as_aux_lemma=>
       cbv
       refine ae h fun qf Af h=>⟨_,al hM Af rfl,?_⟩;cbv
       try(refine⟨⟨rfl,rfl,rfl⟩,?_⟩;cbv)
       refine letE h fun qF Sk h=>⟨_,⟨rfl,iz (enc:=ao) hI hM Sk rfl⟩,?_⟩;cbv
       refine ae h fun u19 WU h=>?_
       (first|refine⟨_,⟨aR hI hM WU,qP (enc:=ao) (l:=[K4,jV]) hI hM rfl⟩,?_⟩|refine⟨_,⟨rfl,aR hI hM WU,rfl,rfl,qP (enc:=ao) (l:=[K4,jV]) hI hM rfl⟩,?_⟩)
       cbv
       try(refine⟨rfl,?_⟩;cbv)
       refine ae h fun u20 O5 h=>?_
       (first|refine⟨⟨rfl,aR hI hM O5,rfl⟩,?_⟩|refine⟨⟨aR hI hM O5,trivial⟩,?_⟩|refine⟨aR hI hM O5,?_⟩)
       cbv
       try(refine⟨⟨by decide,by decide⟩,?_⟩;cbv)
       apply Exists.intro;refine⟨?_,_,rfl,?_⟩
       ·cbv
        refine⟨?_,?_⟩
        ·refine⟨?_,trivial⟩
         refine⟨?_,trivial⟩
         all_goals exact .inl rfl
        refine⟨?_,trivial⟩
        refine⟨?_,trivial⟩
        all_goals exact .inl rfl
       cbv
       refine letE h fun n21 am9 h=>⟨_,ak hI hM am9,?_⟩;cbv
       refine lp h (fun(Qe,xS,Qy)=>[(56,(vi Qy))]) (fun(Qe,xS,Qy)=>[(87004,.box [(vs qf.head),(vi qf.kids),(.gs r (.c 87004 2) (M.map (aW M r) Qe)),(vi 0),(.gs r (.c 87004 4) (M.map ao xS)),(.v .nilFunc)])]) fun Qs m5 ox st h=>?_
       obtain⟨Qe,xS,Qy⟩:=st
       dsimp only[rX]at h
       cbv
       refine si h (fun h=>?_) fun h=>?_
       ·as_aux_lemma=>
         cbv
         refine ae h fun zP LH h=>⟨_,al hM LH rfl,?_⟩;cbv
         refine jU h fun j26 j27 hj h=>?_
         dsimp only at h
         refine aT none [(13,.any),(14,.any)] [(87004,.box [(vs qf.head),(vi qf.kids),(.gs r (.c 87004 2) (M.map (aW M r) j26)),(vi 0),(.gs r (.c 87004 4) (M.map ao j27)),(.v .nilFunc)])] g nx ?_ ?_
         ·replace h:=hj
          cbv
          refine⟨?_,?_⟩
          ·refine⟨?_,trivial⟩
           refine jU h fun j28 Xt hj h=>?_
           dsimp only at h
           refine aT none [(6,(vi j28)),(0,.any),(5,.any)] [(87004,.box [(vs qf.head),(vi qf.kids),(.gs r (.c 87004 2) (M.map (aW M r) Xt)),(vi 0),(.gs r (.c 87004 4) (M.map ao xS)),(.v .nilFunc)])] g nx ?_ ?_
           ·replace h:=hj
            cbv
            refine⟨?_,trivial⟩
            refine ae h fun Gz Hk h=>⟨fun _=>rfl,(.sl r (M.map ao Gz)),g,nx,fun ρ=>by cbv;exact us hc (aD hI hM Hk),?_⟩;cbv
            refine⟨?_,trivial⟩
            refine letE h fun W9 LQ h=>⟨_,ak hI hM LQ,?_⟩;cbv
            refine ae h fun HO adC h=>⟨_,_,dF (enc:=ao) hI hM adC (by decide) rfl,?_⟩;cbv
            refine letE h fun F6 adB h=>?_
            refine letE h fun n34 adb h=>⟨_,_,gr (enc:=ao) hI hM adB adb rfl (fun _=>rfl) (fun _=>rfl),?_⟩;cbv
            refine⟨_,ak hI hM LQ,?_⟩;cbv
            refine si h (fun h=>?_) fun h=>?_
            ·cbv
             refine ae h fun l35 L4 h=>?_
             apply Exists.intro;refine⟨?_,_,rfl,?_⟩
             ·cbv
              refine⟨?_,trivial⟩
              refine⟨?_,trivial⟩
              refine⟨_,bJ (enc:=(aW M r)) (x:=(⟨zP.kind,zP.name,zP.num,[]⟩:aI)) hM ⟨rfl,rfl,rfl,(aH hM),trivial⟩ rfl,?_⟩;cbv
              refine⟨?_,trivial⟩
              refine⟨_,aw (enc:=(aW M r)) hI hM L4 (fun _=>rfl) rfl (fun _=>rfl),?_⟩;cbv
              refine⟨?_,trivial⟩
              all_goals exact .inl rfl
             cbv
             refine letE h fun n36 ada h=>⟨_,ak hI hM ada,?_⟩;cbv
             cases h
             first|exact Or.inl rfl|exact bB
            cbv
            refine ae h fun u37 acR h=>?_
            refine ae h fun l38 Sj h=>?_
            apply Exists.intro;refine⟨?_,_,rfl,?_⟩
            ·cbv
             refine⟨?_,trivial⟩
             refine⟨?_,trivial⟩
             refine⟨_,bJ (enc:=(aW M r)) (x:=(⟨zP.kind,zP.name,zP.num,F6⟩:aI)) hM ⟨rfl,rfl,rfl,(dg hM acR),trivial⟩ rfl,?_⟩;cbv
             refine⟨?_,trivial⟩
             refine⟨_,aw (enc:=(aW M r)) hI hM Sj (fun _=>rfl) rfl (fun _=>rfl),?_⟩;cbv
             refine⟨?_,trivial⟩
             all_goals exact .inl rfl
            cbv
            refine letE h fun n39 ac9 h=>⟨_,ak hI hM ac9,?_⟩;cbv
            cases h
            first|exact Or.inl rfl|exact bB
           clear hj
           cbv
           refine⟨?_,trivial⟩
           refine⟨_,bJ (enc:=ao) (x:=j28) hM (ah _) rfl,?_⟩;cbv
           refine⟨?_,trivial⟩
           refine ae h fun l40 adz h=>⟨_,aw (enc:=ao) hI hM adz (fun _=>rfl) rfl (fun _=>rfl),?_⟩;cbv
           refine⟨?_,trivial⟩
           cases h
           first|exact Or.inl rfl|exact bB
          refine⟨?_,trivial⟩
          refine jU h fun j28 Xt hj h=>?_
          dsimp only at h
          refine aT none [(6,(vi j28)),(0,.any),(5,.any)] [(87004,.box [(vs qf.head),(vi qf.kids),(.gs r (.c 87004 2) (M.map (aW M r) Xt)),(vi 0),(.gs r (.c 87004 4) (M.map ao xS)),(.v .nilFunc)])] g nx ?_ ?_
          ·replace h:=hj
           cbv
           refine⟨?_,trivial⟩
           refine ae h fun Gz Hk h=>⟨fun _=>rfl,(.sl r (M.map ao Gz)),g,nx,fun ρ=>by cbv;exact us hc (aD hI hM Hk),?_⟩;cbv
           refine⟨?_,trivial⟩
           refine letE h fun W9 LQ h=>⟨_,ak hI hM LQ,?_⟩;cbv
           refine ae h fun HO adC h=>⟨_,_,dF (enc:=ao) hI hM adC (by decide) rfl,?_⟩;cbv
           refine letE h fun F6 adB h=>?_
           refine letE h fun n34 adb h=>⟨_,_,gr (enc:=ao) hI hM adB adb rfl (fun _=>rfl) (fun _=>rfl),?_⟩;cbv
           refine⟨_,ak hI hM LQ,?_⟩;cbv
           refine si h (fun h=>?_) fun h=>?_
           ·cbv
            refine ae h fun l35 L4 h=>?_
            apply Exists.intro;refine⟨?_,_,rfl,?_⟩
            ·cbv
             refine⟨?_,trivial⟩
             refine⟨?_,trivial⟩
             refine⟨_,bJ (enc:=(aW M r)) (x:=(⟨zP.kind,zP.name,zP.num,[]⟩:aI)) hM ⟨rfl,rfl,rfl,(aH hM),trivial⟩ rfl,?_⟩;cbv
             refine⟨?_,trivial⟩
             refine⟨_,aw (enc:=(aW M r)) hI hM L4 (fun _=>rfl) rfl (fun _=>rfl),?_⟩;cbv
             refine⟨?_,trivial⟩
             all_goals exact .inl rfl
            cbv
            refine letE h fun n36 ada h=>⟨_,ak hI hM ada,?_⟩;cbv
            cases h
            first|exact Or.inl rfl|exact bB
           cbv
           refine ae h fun u37 acR h=>?_
           refine ae h fun l38 Sj h=>?_
           apply Exists.intro;refine⟨?_,_,rfl,?_⟩
           ·cbv
            refine⟨?_,trivial⟩
            refine⟨?_,trivial⟩
            refine⟨_,bJ (enc:=(aW M r)) (x:=(⟨zP.kind,zP.name,zP.num,F6⟩:aI)) hM ⟨rfl,rfl,rfl,(dg hM acR),trivial⟩ rfl,?_⟩;cbv
            refine⟨?_,trivial⟩
            refine⟨_,aw (enc:=(aW M r)) hI hM Sj (fun _=>rfl) rfl (fun _=>rfl),?_⟩;cbv
            refine⟨?_,trivial⟩
            all_goals exact .inl rfl
           cbv
           refine letE h fun n39 ac9 h=>⟨_,ak hI hM ac9,?_⟩;cbv
           cases h
           first|exact Or.inl rfl|exact bB
          clear hj
          cbv
          refine⟨?_,trivial⟩
          refine⟨_,bJ (enc:=ao) (x:=j28) hM (ah _) rfl,?_⟩;cbv
          refine⟨?_,trivial⟩
          refine ae h fun l40 adz h=>⟨_,aw (enc:=ao) hI hM adz (fun _=>rfl) rfl (fun _=>rfl),?_⟩;cbv
          refine⟨?_,trivial⟩
          cases h
          first|exact Or.inl rfl|exact bB
         clear hj
         cbv
         exact bN (ox _ _ h)
       cbv
       refine ae h fun IV Ho h=>?_
       apply Exists.intro;refine⟨?_,_,rfl,?_⟩
       ·cbv
        refine⟨_,al hM Ho rfl,?_⟩;cbv
        refine⟨?_,trivial⟩
        all_goals exact .inl rfl
       cbv
       refine ae h fun k45 ah0 h=>?_
       (first|refine⟨_,⟨rfl,rfl,aK hI ah0⟩,?_⟩|refine⟨_,aK hI ah0,?_⟩)
       cbv
       refine ae h fun x46 amI h=>⟨_,_,rfl,ba hM amI,rfl,?_⟩;cbv
       refine ae h fun k47 ant h=>⟨_,bV hI hM ant,?_⟩;cbv
       refine ae h fun Zr LF h=>?_
       refine ae h fun Tg Hx h=>?_
       refine ae h fun Qc Pb h=>?_
       apply Exists.intro;refine⟨?_,_,rfl,?_⟩
       ·cbv
        refine⟨_,_,_,⟨rfl,ba (enc:=(aq M r)) hM LF,rfl,rfl⟩,?_⟩;cbv
        refine⟨?_,trivial⟩
        refine⟨_,bJ (enc:=(az M r)) (x:=(⟨qf.head,qf.kids,Qe,IV⟩:ag)) hM (ah _) rfl,?_⟩;cbv
        refine⟨?_,trivial⟩
        refine⟨_,aw (enc:=(az M r)) hI hM Hx (fun _=>rfl) rfl (fun _=>rfl),?_⟩;cbv
        refine⟨?_,trivial⟩
        (first|refine⟨_,qQ (enc:=(aq M r)) hI hM LF Pb (show 2<3 from by decide) rfl,?_⟩|refine⟨rfl,rfl,rfl,_,qQ (enc:=(aq M r)) hI hM LF Pb (show 2<3 from by decide) rfl,?_⟩)
        cbv
        all_goals exact .inl rfl
       cbv
       try(refine⟨rfl,?_⟩;cbv)
       refine lK hI ?_;cbv
       exact bN (pW _ _ h)
     cbv
     exact bN (jE _ _ h)
   cbv
   try(refine⟨rfl,?_⟩;cbv)
   refine ae h fun u55 amW h=>?_
   obtain rfl:=Option.some.inj h
   cbv
   all_goals(repeat' apply And.intro)
   all_goals first|trivial|rfl|exact(aH hM)|exact(dg hM amW)
 cbv
 cases h
end Ab
