/- PassesBlocks holds of all cores and names (no condition): a part of the proof: an abstract interpreter of the code that is proved sound, models of the functions, and laws of these models. -/
import Derived.Test.YtcdinjhcnhepeaaGreatDoorB03
import Derived.Test.YtcdinjhcnhepeaaGreatDoorB04
import Derived.Test.YtcdinjhcnhepeaaGreatDoorB05
import Derived.Test.YtcdinjhcnhepeaaGreatDoorB14
set_option linter.unusedVariables false
set_option linter.unusedSimpArgs false
set_option linter.unusedSectionVars false
namespace Ab
open Go Go.Proofs.Tryz
set_option maxHeartbeats 100000000
set_option maxRecDepth 100000
variable{I:Pr}(hI:I=al){M:Md}(hM:M= .al){n nx r s p q u rl:Nat}{g:Nat→Option Ob}
 include hI hM
theorem xg{a0:af}{v:af×Int}(h:wE I M n a0=some v):
  cv 10 [(.agg (aZ M p a0))] (.gw [(.agg (aZ M r v.1)),(vi v.2)]) g nx:=by
 refine yi func10 c10 r afL aj9 [5] 16 ntmps10 [.cell 2 24,.tmp 3] hI (bp.cons (o7 r) (bp.cons (sm r) (bp.cons (uW r) (bp.cons (abG r) (bp.cons (abH r) (bp.cons (xS r) (sX PP gL))))))) 8 fun call hc=>?_;cbv;refine ag h fun y1 c9 h=>⟨_,_,_,us hc (dh hI hM c9),?_⟩;cbv;refine si h (fun h=>by cbv;cases h;exact fin) fun h=>?_;cbv;refine letE h fun n2 oC h=>⟨_,an hI hM oC,?_⟩;cbv;refine kD n (fun mK aW=>?_);cbv;refine si h (fun h=>?_) fun h=>?_
 ·as_aux_lemma=>
   cbv;refine ag h fun x3 me h=>⟨_,ao hM me rfl,?_⟩;cbv;refine⟨_,Q9 (by rfl),?_⟩;cbv;refine ag h fun l4 M9 h=>⟨qP hI M9,_,_,zd (enc:=(ay M r)) hI hM M9 (by have e0:=aJ (enc:=(az M r)) hM;simp only[ay,vi,vs,vb,cq,eD,e0]),?_⟩;cbv;refine aW _ (lpD h [50009] (fun(l5,z6)=>[(19,(vi z6)),(20,.any)]) (fun(l5,z6)=>[(50007,.box [(.eW (.s 50031) (M.ln l5))]),(50031,.ow (.sl 3) none (M.map (ay M r) l5))]) fun D0 m2 eM st h=>?_);obtain⟨l5,z6⟩:=st;dsimp only[yD]at h;cbv;refine si h (fun h=>?_) fun h=>?_
   ·cbv;refine ag h fun x7 RW h=>⟨_,ao hM RW rfl,?_⟩;cbv;refine⟨_,Q9 (by rfl),?_⟩;cbv;refine ag h fun l8 RZ h=>?_
    (refine⟨_,_,FF (enc:=(ay M r)) hI hM RZ ?_,?_⟩;next=>have e0:=aJ (enc:=(az M r)) hM;simp only[ay,vi,vs,vb,cq,eD,e0])
    cbv;exact bY (eM _ _ h)
   cbv;intro l;cbv;refine letE h fun yG BQ h=>⟨_,an hI hM BQ,?_⟩;cbv;refine lp h (fun(gJ,zW,fc)=>[(10,(vi fc))]) (fun(gJ,zW,fc)=>[(5,.box [(.sl p (M.map bV gJ))]),(50031,.ow (.sl 3) none (M.map (ay M r) zW))]) fun Nl m3 jO st h=>?_;obtain⟨gJ,zW,fc⟩:=st;dsimp only[yC]at h;cbv;refine si h (fun h=>?_) fun h=>?_
   ·as_aux_lemma=>
     cbv;refine ag h fun vw Fs h=>⟨_,ao hM Fs rfl,?_⟩;cbv;refine letE h fun CW BP h=>⟨_,an hI hM BP,?_⟩;cbv;refine lp h (fun(zu,uL,fM)=>[(18,(vi fM))]) (fun(zu,uL,fM)=>[(5,.box [(.sl p (M.map bV zu))]),(50031,.ow (.sl 3) none (M.map (ay M r) uL))]) fun Tf m4 ni st h=>?_;obtain⟨zu,uL,fM⟩:=st;dsimp only[yB]at h;cbv;refine si h (fun h=>?_) fun h=>?_
     ·as_aux_lemma=>
       cbv;refine ag h fun eR JE h=>⟨_,ao hM JE rfl,?_⟩;cbv;(try(refine⟨⟨rfl,rfl,rfl⟩,?_⟩;cbv));refine letE h fun vE JM h=>⟨_,⟨rfl,gA (enc:=aq) hI hM JM rfl⟩,?_⟩;cbv;refine ag h fun Zg Aq h=>?_
       (first|refine⟨_,⟨aS hI hM Aq,qh (enc:=aq) (l:=[fc,fM]) hI hM rfl⟩,?_⟩|refine⟨_,⟨rfl,aS hI hM Aq,rfl,rfl,qh (enc:=aq) (l:=[fc,fM]) hI hM rfl⟩,?_⟩)
       cbv;(try(refine⟨rfl,?_⟩;cbv));refine ag h fun T5 tf h=>?_
       (first|refine⟨⟨rfl,aS hI hM tf,rfl⟩,?_⟩|refine⟨⟨aS hI hM tf,trivial⟩,?_⟩|refine⟨aS hI hM tf,?_⟩)
       cbv;(try(refine⟨⟨by decide,by decide⟩,?_⟩;cbv));refine ag h fun k24 LH h=>?_
       (first|refine⟨_,⟨rfl,rfl,aK hI LH⟩,?_⟩|refine⟨_,aK hI LH,?_⟩)
       cbv;refine ag h fun z0 Of h=>⟨_,_,rfl,bA hM Of,rfl,?_⟩;cbv;refine ag h fun k26 VS h=>?_
       (first|refine⟨_,⟨rfl,rfl,aK hI VS⟩,?_⟩|refine⟨_,aK hI VS,?_⟩)
       cbv;refine ag h fun qy UT h=>⟨_,_,rfl,bA hM UT,rfl,?_⟩;cbv;refine ag h fun Rl RV h=>⟨_,_,_,us hc (Kn hI hM RV),?_⟩;cbv;apply Exists.intro;refine⟨?_,_,rfl,?_⟩
       ·cbv;(repeat' first|exact .inl rfl|exact trivial|apply And.intro);all_goals exact bn
       cbv;refine letE h fun n29 ar2 h=>⟨_,an hI hM ar2,?_⟩;cbv;refine lp h (fun(Mm,Su,G0)=>[(56,(vi G0))]) (fun(Mm,Su,G0)=>[(12851015,.box [(vs eR.head),(vi eR.aN),(.gs r (.c 12851015 2) (M.map (bB M r) Mm)),(vi 0),(.gs r (.c 12851015 4) (M.map aq Su)),(.v .nilFunc)])]) fun TG m5 oX st h=>?_;obtain⟨Mm,Su,G0⟩:=st;dsimp only[yA]at h;cbv;refine si h (fun h=>?_) fun h=>?_
       ·as_aux_lemma=>
         cbv;refine ag h fun Hw arI h=>⟨_,ao hM arI rfl,?_⟩;cbv;refine kZ h fun j34 Mr hj h=>?_;dsimp only at h;refine aY none [(13,.any),(14,.any)] [(12851015,.box [(vs eR.head),(vi eR.aN),(.gs r (.c 12851015 2) (M.map (bB M r) j34)),(vi 0),(.gs r (.c 12851015 4) (M.map aq Mr)),(.v .nilFunc)])] g nx ?_ ?_
         ·replace h:=hj;cbv;refine⟨?_,?_⟩
          ·refine⟨?_,trivial⟩;refine ag h fun I5 Fq h=>⟨_,ao hM Fq rfl,?_⟩;cbv;refine si h (fun h=>?_) fun h=>?_
           ·cbv;refine⟨?_,trivial⟩;refine⟨_,cC (enc:=aq) (x:=0) hM (ak _) rfl,?_⟩;cbv;refine⟨?_,trivial⟩;refine ag h fun KR R5 h=>⟨_,ax (enc:=aq) hI hM R5 (fun _=>rfl) rfl (fun _=>rfl),?_⟩;cbv;refine⟨?_,trivial⟩;cases h;first|exact Or.inl rfl|exact bn
           cbv;refine kZ h fun uR DK hj h=>?_;dsimp only at h;refine aY none [(7,(vi uR)),(0,.any),(6,.any)] [(12851015,.box [(vs eR.head),(vi eR.aN),(.gs r (.c 12851015 2) (M.map (bB M r) DK)),(vi 0),(.gs r (.c 12851015 4) (M.map aq Su)),(.v .nilFunc)])] g nx ?_ ?_
           ·replace h:=hj;cbv;refine⟨?_,trivial⟩;refine ag h fun Dw BL h=>⟨fun _=>rfl,(.sl r (M.map aq Dw)),g,nx,fun ρ=>by cbv;exact us hc (aT hI hM BL),?_⟩;cbv;refine⟨?_,trivial⟩;refine letE h fun YL Ot h=>⟨_,an hI hM Ot,?_⟩;cbv;refine ag h fun H7 OD h=>⟨_,_,gf (enc:=aq) hI hM OD (by decide) rfl,?_⟩;cbv;refine letE h fun Nc OC h=>?_;refine letE h fun n44 agY h=>⟨_,_,ix (enc:=aq) hI hM OC agY rfl (fun _=>rfl) (fun _=>rfl),?_⟩;cbv;refine⟨_,an hI hM Ot,?_⟩;cbv;refine si h (fun h=>?_) fun h=>?_
            ·cbv;refine ag h fun Qv OB h=>?_;apply Exists.intro;refine⟨?_,_,rfl,?_⟩
             ·cbv;(repeat' first|exact .inl rfl|exact trivial|(refine⟨_,cC (enc:=(bB M r)) (x:=(⟨Hw.kind,Hw.name,Hw.num,[]⟩:aH)) hM ⟨rfl,rfl,rfl,(aJ hM),trivial⟩ rfl,?_⟩;cbv)|(refine⟨_,ax (enc:=(bB M r)) hI hM OB (fun _=>rfl) rfl (fun _=>rfl),?_⟩;cbv)|apply And.intro);all_goals exact bn
             cbv;refine letE h fun OT JH h=>⟨_,an hI hM JH,?_⟩;cbv;cases h;first|exact Or.inl rfl|exact bn
            cbv;refine ag h fun u47 agz h=>?_;refine ag h fun YQ Vw h=>?_;apply Exists.intro;refine⟨?_,_,rfl,?_⟩
            ·cbv;(repeat' first|exact .inl rfl|exact trivial|(refine⟨_,cC (enc:=(bB M r)) (x:=(⟨Hw.kind,Hw.name,Hw.num,Nc⟩:aH)) hM ⟨rfl,rfl,rfl,(eF hM agz),trivial⟩ rfl,?_⟩;cbv)|(refine⟨_,ax (enc:=(bB M r)) hI hM Vw (fun _=>rfl) rfl (fun _=>rfl),?_⟩;cbv)|apply And.intro);all_goals exact bn
            cbv;refine letE h fun Wk Oq h=>⟨_,an hI hM Oq,?_⟩;cbv;cases h;first|exact Or.inl rfl|exact bn
           clear hj;cbv;refine⟨?_,trivial⟩;refine⟨_,cC (enc:=aq) (x:=uR) hM (ak _) rfl,?_⟩;cbv;refine⟨?_,trivial⟩;refine ag h fun YP R4 h=>⟨_,ax (enc:=aq) hI hM R4 (fun _=>rfl) rfl (fun _=>rfl),?_⟩;cbv;refine⟨?_,trivial⟩;cases h;first|exact Or.inl rfl|exact bn
          refine⟨?_,trivial⟩;refine ag h fun I5 Fq h=>⟨_,ao hM Fq rfl,?_⟩;cbv;refine si h (fun h=>?_) fun h=>?_
          ·cbv;refine⟨?_,trivial⟩;refine⟨_,cC (enc:=aq) (x:=0) hM (ak _) rfl,?_⟩;cbv;refine⟨?_,trivial⟩;refine ag h fun KR R5 h=>⟨_,ax (enc:=aq) hI hM R5 (fun _=>rfl) rfl (fun _=>rfl),?_⟩;cbv;refine⟨?_,trivial⟩;cases h;first|exact Or.inl rfl|exact bn
          cbv;refine kZ h fun uR DK hj h=>?_;dsimp only at h;refine aY none [(7,(vi uR)),(0,.any),(6,.any)] [(12851015,.box [(vs eR.head),(vi eR.aN),(.gs r (.c 12851015 2) (M.map (bB M r) DK)),(vi 0),(.gs r (.c 12851015 4) (M.map aq Su)),(.v .nilFunc)])] g nx ?_ ?_
          ·replace h:=hj;cbv;refine⟨?_,trivial⟩;refine ag h fun Dw BL h=>⟨fun _=>rfl,(.sl r (M.map aq Dw)),g,nx,fun ρ=>by cbv;exact us hc (aT hI hM BL),?_⟩;cbv;refine⟨?_,trivial⟩;refine letE h fun YL Ot h=>⟨_,an hI hM Ot,?_⟩;cbv;refine ag h fun H7 OD h=>⟨_,_,gf (enc:=aq) hI hM OD (by decide) rfl,?_⟩;cbv;refine letE h fun Nc OC h=>?_;refine letE h fun n44 agY h=>⟨_,_,ix (enc:=aq) hI hM OC agY rfl (fun _=>rfl) (fun _=>rfl),?_⟩;cbv;refine⟨_,an hI hM Ot,?_⟩;cbv;refine si h (fun h=>?_) fun h=>?_
           ·cbv;refine ag h fun Qv OB h=>?_;apply Exists.intro;refine⟨?_,_,rfl,?_⟩
            ·cbv;(repeat' first|exact .inl rfl|exact trivial|(refine⟨_,cC (enc:=(bB M r)) (x:=(⟨Hw.kind,Hw.name,Hw.num,[]⟩:aH)) hM ⟨rfl,rfl,rfl,(aJ hM),trivial⟩ rfl,?_⟩;cbv)|(refine⟨_,ax (enc:=(bB M r)) hI hM OB (fun _=>rfl) rfl (fun _=>rfl),?_⟩;cbv)|apply And.intro);all_goals exact bn
            cbv;refine letE h fun OT JH h=>⟨_,an hI hM JH,?_⟩;cbv;cases h;first|exact Or.inl rfl|exact bn
           cbv;refine ag h fun u47 agz h=>?_;refine ag h fun YQ Vw h=>?_;apply Exists.intro;refine⟨?_,_,rfl,?_⟩
           ·cbv;(repeat' first|exact .inl rfl|exact trivial|(refine⟨_,cC (enc:=(bB M r)) (x:=(⟨Hw.kind,Hw.name,Hw.num,Nc⟩:aH)) hM ⟨rfl,rfl,rfl,(eF hM agz),trivial⟩ rfl,?_⟩;cbv)|(refine⟨_,ax (enc:=(bB M r)) hI hM Vw (fun _=>rfl) rfl (fun _=>rfl),?_⟩;cbv)|apply And.intro);all_goals exact bn
           cbv;refine letE h fun Wk Oq h=>⟨_,an hI hM Oq,?_⟩;cbv;cases h;first|exact Or.inl rfl|exact bn
          clear hj;cbv;refine⟨?_,trivial⟩;refine⟨_,cC (enc:=aq) (x:=uR) hM (ak _) rfl,?_⟩;cbv;refine⟨?_,trivial⟩;refine ag h fun YP R4 h=>⟨_,ax (enc:=aq) hI hM R4 (fun _=>rfl) rfl (fun _=>rfl),?_⟩;cbv;refine⟨?_,trivial⟩;cases h;first|exact Or.inl rfl|exact bn
         clear hj;cbv;exact bY (oX _ _ h)
       cbv;refine ag h fun x54 arC h=>?_;apply Exists.intro;refine⟨?_,_,rfl,?_⟩
       ·cbv;(repeat' first|exact .inl rfl|exact trivial|(refine⟨_,ao hM arC rfl,?_⟩;cbv)|apply And.intro);all_goals exact bn
       cbv;refine ag h fun k55 amq h=>?_
       (first|refine⟨_,⟨rfl,rfl,aK hI amq⟩,?_⟩|refine⟨_,aK hI amq,?_⟩)
       cbv;refine ag h fun x56 arA h=>⟨_,_,rfl,bA hM arA,rfl,?_⟩;cbv;refine ag h fun k57 OG h=>⟨_,gG hI hM OG,?_⟩;cbv;refine ag h fun x58 N9 h=>?_;refine ag h fun Qu JK h=>?_;refine ag h fun H5 Hf h=>?_;apply Exists.intro;refine⟨?_,_,rfl,?_⟩
       ·cbv;(repeat' first|exact .inl rfl|exact trivial|(refine⟨_,_,_,⟨rfl,bA (enc:=(ay M r)) hM N9,rfl,rfl⟩,?_⟩;cbv)|(refine⟨_,cC (enc:=(az M r)) (x:=(⟨eR.head,eR.aN,Mm,x54⟩:ah)) hM (ak _) rfl,?_⟩;cbv)|(refine⟨_,ax (enc:=(az M r)) hI hM JK (fun _=>rfl) rfl (fun _=>rfl),?_⟩;cbv)|((first|refine⟨_,su (enc:=(ay M r)) hI hM N9 Hf (show 2<3 from by decide) rfl,?_⟩|refine⟨rfl,rfl,rfl,_,su (enc:=(ay M r)) hI hM N9 Hf (show 2<3 from by decide) rfl,?_⟩);cbv)|apply And.intro);all_goals exact bn
       cbv;(try(refine⟨rfl,?_⟩;cbv));refine lW hI ?_;cbv;exact bY (ni _ _ h)
     cbv;exact bY (jO _ _ h)
   cbv;(try(refine⟨rfl,?_⟩;cbv));refine ag h fun u67 arR h=>?_;obtain rfl:=oJ h;cbv;(all_goals(repeat' apply And.intro));all_goals first|trivial|rfl|exact(aJ hM)|exact(eF hM arR)
 cbv;cases h
end Ab
