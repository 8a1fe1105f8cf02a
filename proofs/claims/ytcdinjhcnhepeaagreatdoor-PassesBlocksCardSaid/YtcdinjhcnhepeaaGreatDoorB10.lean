/- PassesBlocks holds of all cores and names (no condition): a part of the proof: an abstract interpreter of the code that is proved sound, models of the functions, and laws of these models. -/
import Derived.Test.YtcdinjhcnhepeaaGreatDoorB03
import Derived.Test.YtcdinjhcnhepeaaGreatDoorB04
import Derived.Test.YtcdinjhcnhepeaaGreatDoorB05
set_option linter.unusedVariables false
set_option linter.unusedSimpArgs false
set_option linter.unusedSectionVars false
namespace Ab
open Go Go.Proofs.Tryz
set_option maxHeartbeats 100000000
set_option maxRecDepth 100000
variable{I:Pr}(hI:I=al){M:Md}(hM:M= .al){n nx r s p q u rl:Nat}{g:Nat→Option Ob}
 include hI hM
theorem A4{a0:af}{v:af}(h:qM I M n a0=some v):
  cv 50 [(.agg (aZ M p a0)),(.fn (.func 87) []),(.fn (.func 122) [])] (.agg (aZ M r v)) g nx:=by
 refine yi func50 c50 r Ua XW [1031,2097] 107 ntmps50 [.cell 6 24] hI (bp.cons (o7 r) (bp.cons (XJ r) (bp.cons (sm r) (bp.cons (QT r) (bp.cons (uW r) (sX PP gL)))))) 8 fun call hc=>?_;cbv;refine letE h fun n1 dJ h=>⟨_,an hI hM dJ,?_⟩;cbv;refine kD n (fun mK aW=>?_);cbv;refine si h (fun h=>?_) fun h=>?_
 ·as_aux_lemma=>
   cbv;refine ag h fun x2 YE h=>⟨_,ao hM YE rfl,?_⟩;cbv;refine⟨_,Q9 (by rfl),?_⟩;cbv;refine ag h fun l3 To h=>⟨qP hI To,_,_,zd (enc:=(ay M r)) hI hM To (by have e0:=aJ (enc:=(az M r)) hM;simp only[ay,vi,vs,vb,cq,eD,e0]),?_⟩;cbv;refine aW _ (lpD h [9] (fun(l4,z5)=>[(19,(vi z5)),(20,.any)]) (fun(l4,z5)=>[(7,.box [(.eW (.s 31) (M.ln l4))]),(31,.ow (.sl 3) none (M.map (ay M r) l4))]) fun D0 m2 eM st h=>?_);obtain⟨l4,z5⟩:=st;dsimp only[fm]at h;cbv;refine si h (fun h=>?_) fun h=>?_
   ·cbv;refine ag h fun x6 Fo h=>⟨_,ao hM Fo rfl,?_⟩;cbv;refine⟨_,Q9 (by rfl),?_⟩;cbv;refine ag h fun l7 ql7 h=>?_
    (refine⟨_,_,FF (enc:=(ay M r)) hI hM ql7 ?_,?_⟩;next=>have e0:=aJ (enc:=(az M r)) hM;simp only[ay,vi,vs,vb,cq,eD,e0])
    cbv;exact bY (eM _ _ h)
   cbv;intro l;cbv;refine letE h fun BW BR h=>⟨_,an hI hM BR,?_⟩;cbv;refine lp h (fun(zX,yT)=>[(10,(vi yT))]) (fun(zX,yT)=>[(31,.ow (.sl 3) none (M.map (ay M r) zX))]) fun Nl m3 jO st h=>?_;obtain⟨zX,yT⟩:=st;dsimp only[dR]at h;cbv;refine si h (fun h=>?_) fun h=>?_
   ·as_aux_lemma=>
     cbv;refine ag h fun GU JF h=>⟨_,ao hM JF rfl,?_⟩;cbv;refine letE h fun DG Fx h=>⟨_,an hI hM Fx,?_⟩;cbv;refine lp h (fun(vN,kr)=>[(18,(vi kr))]) (fun(vN,kr)=>[(31,.ow (.sl 3) none (M.map (ay M r) vN))]) fun Tf m4 ni st h=>?_;obtain⟨vN,kr⟩:=st;dsimp only[fk]at h;cbv;refine si h (fun h=>?_) fun h=>?_
     ·as_aux_lemma=>
       cbv;refine ag h fun pA zb h=>⟨_,ao hM zb rfl,?_⟩;cbv;(try(refine⟨⟨rfl,rfl,rfl⟩,?_⟩;cbv));refine letE h fun uL ahw h=>⟨_,⟨rfl,gA (enc:=aq) hI hM ahw rfl⟩,?_⟩;cbv;refine ag h fun u19 Oi h=>?_
       (first|refine⟨_,⟨aS hI hM Oi,qh (enc:=aq) (l:=[yT,kr]) hI hM rfl⟩,?_⟩|refine⟨_,⟨rfl,aS hI hM Oi,rfl,rfl,qh (enc:=aq) (l:=[yT,kr]) hI hM rfl⟩,?_⟩)
       cbv;(try(refine⟨rfl,?_⟩;cbv));refine ag h fun u20 RY h=>?_
       (first|refine⟨⟨rfl,aS hI hM RY,rfl⟩,?_⟩|refine⟨⟨aS hI hM RY,trivial⟩,?_⟩|refine⟨aS hI hM RY,?_⟩)
       cbv;(try(refine⟨⟨by decide,by decide⟩,?_⟩;cbv));apply Exists.intro;refine⟨?_,_,rfl,?_⟩
       ·cbv;(repeat' first|exact .inl rfl|exact trivial|apply And.intro);all_goals exact bn
       cbv;refine letE h fun n21 ar7 h=>⟨_,an hI hM ar7,?_⟩;cbv;refine lp h (fun(Nd,vY,Tl)=>[(56,(vi Tl))]) (fun(Nd,vY,Tl)=>[(87004,.box [(vs pA.head),(vi pA.aN),(.gs r (.c 87004 2) (M.map (bB M r) Nd)),(vi 0),(.gs r (.c 87004 4) (M.map aq vY)),(.v .nilFunc)])]) fun TG m5 oX st h=>?_;obtain⟨Nd,vY,Tl⟩:=st;dsimp only[fh]at h;cbv;refine si h (fun h=>?_) fun h=>?_
       ·as_aux_lemma=>
         cbv;refine ag h fun z0 Of h=>⟨_,ao hM Of rfl,?_⟩;cbv;refine kZ h fun j26 j27 hj h=>?_;dsimp only at h;refine aY none [(13,.any),(14,.any)] [(87004,.box [(vs pA.head),(vi pA.aN),(.gs r (.c 87004 2) (M.map (bB M r) j26)),(vi 0),(.gs r (.c 87004 4) (M.map aq j27)),(.v .nilFunc)])] g nx ?_ ?_
         ·replace h:=hj;cbv;refine⟨?_,?_⟩
          ·refine⟨?_,trivial⟩;refine kZ h fun j28 j29 hj h=>?_;dsimp only at h;refine aY none [(6,(vi j28)),(0,.any),(5,.any)] [(87004,.box [(vs pA.head),(vi pA.aN),(.gs r (.c 87004 2) (M.map (bB M r) j29)),(vi 0),(.gs r (.c 87004 4) (M.map aq vY)),(.v .nilFunc)])] g nx ?_ ?_
           ·replace h:=hj;cbv;refine⟨?_,trivial⟩;refine ag h fun KM LD h=>⟨fun _=>rfl,(.sl r (M.map aq KM)),g,nx,fun ρ=>by cbv;exact us hc (aT hI hM LD),?_⟩;cbv;refine⟨?_,trivial⟩;refine letE h fun n31 Ou h=>⟨_,an hI hM Ou,?_⟩;cbv;refine ag h fun zV Vx h=>⟨_,_,gf (enc:=aq) hI hM Vx (by decide) rfl,?_⟩;cbv;refine letE h fun vX ahu h=>?_;refine letE h fun n34 ag1 h=>⟨_,_,ix (enc:=aq) hI hM ahu ag1 rfl (fun _=>rfl) (fun _=>rfl),?_⟩;cbv;refine⟨_,an hI hM Ou,?_⟩;cbv;refine si h (fun h=>?_) fun h=>?_
            ·cbv;refine ag h fun WK R6 h=>?_;apply Exists.intro;refine⟨?_,_,rfl,?_⟩
             ·cbv;(repeat' first|exact .inl rfl|exact trivial|(refine⟨_,cC (enc:=(bB M r)) (x:=(⟨z0.kind,z0.name,z0.num,[]⟩:aH)) hM ⟨rfl,rfl,rfl,(aJ hM),trivial⟩ rfl,?_⟩;cbv)|(refine⟨_,ax (enc:=(bB M r)) hI hM R6 (fun _=>rfl) rfl (fun _=>rfl),?_⟩;cbv)|apply And.intro);all_goals exact bn
             cbv;refine letE h fun n36 ag0 h=>⟨_,an hI hM ag0,?_⟩;cbv;cases h;first|exact Or.inl rfl|exact bn
            cbv;refine ag h fun u37 agD h=>?_;refine ag h fun l38 aht h=>?_;apply Exists.intro;refine⟨?_,_,rfl,?_⟩
            ·cbv;(repeat' first|exact .inl rfl|exact trivial|(refine⟨_,cC (enc:=(bB M r)) (x:=(⟨z0.kind,z0.name,z0.num,vX⟩:aH)) hM ⟨rfl,rfl,rfl,(eF hM agD),trivial⟩ rfl,?_⟩;cbv)|(refine⟨_,ax (enc:=(bB M r)) hI hM aht (fun _=>rfl) rfl (fun _=>rfl),?_⟩;cbv)|apply And.intro);all_goals exact bn
            cbv;refine letE h fun n39 agZ h=>⟨_,an hI hM agZ,?_⟩;cbv;cases h;first|exact Or.inl rfl|exact bn
           clear hj;cbv;refine⟨?_,trivial⟩;refine⟨_,cC (enc:=aq) (x:=j28) hM (ak _) rfl,?_⟩;cbv;refine⟨?_,trivial⟩;refine ag h fun l40 ahs h=>⟨_,ax (enc:=aq) hI hM ahs (fun _=>rfl) rfl (fun _=>rfl),?_⟩;cbv;refine⟨?_,trivial⟩;cases h;first|exact Or.inl rfl|exact bn
          refine⟨?_,trivial⟩;refine kZ h fun j28 j29 hj h=>?_;dsimp only at h;refine aY none [(6,(vi j28)),(0,.any),(5,.any)] [(87004,.box [(vs pA.head),(vi pA.aN),(.gs r (.c 87004 2) (M.map (bB M r) j29)),(vi 0),(.gs r (.c 87004 4) (M.map aq vY)),(.v .nilFunc)])] g nx ?_ ?_
          ·replace h:=hj;cbv;refine⟨?_,trivial⟩;refine ag h fun KM LD h=>⟨fun _=>rfl,(.sl r (M.map aq KM)),g,nx,fun ρ=>by cbv;exact us hc (aT hI hM LD),?_⟩;cbv;refine⟨?_,trivial⟩;refine letE h fun n31 Ou h=>⟨_,an hI hM Ou,?_⟩;cbv;refine ag h fun zV Vx h=>⟨_,_,gf (enc:=aq) hI hM Vx (by decide) rfl,?_⟩;cbv;refine letE h fun vX ahu h=>?_;refine letE h fun n34 ag1 h=>⟨_,_,ix (enc:=aq) hI hM ahu ag1 rfl (fun _=>rfl) (fun _=>rfl),?_⟩;cbv;refine⟨_,an hI hM Ou,?_⟩;cbv;refine si h (fun h=>?_) fun h=>?_
           ·cbv;refine ag h fun WK R6 h=>?_;apply Exists.intro;refine⟨?_,_,rfl,?_⟩
            ·cbv;(repeat' first|exact .inl rfl|exact trivial|(refine⟨_,cC (enc:=(bB M r)) (x:=(⟨z0.kind,z0.name,z0.num,[]⟩:aH)) hM ⟨rfl,rfl,rfl,(aJ hM),trivial⟩ rfl,?_⟩;cbv)|(refine⟨_,ax (enc:=(bB M r)) hI hM R6 (fun _=>rfl) rfl (fun _=>rfl),?_⟩;cbv)|apply And.intro);all_goals exact bn
            cbv;refine letE h fun n36 ag0 h=>⟨_,an hI hM ag0,?_⟩;cbv;cases h;first|exact Or.inl rfl|exact bn
           cbv;refine ag h fun u37 agD h=>?_;refine ag h fun l38 aht h=>?_;apply Exists.intro;refine⟨?_,_,rfl,?_⟩
           ·cbv;(repeat' first|exact .inl rfl|exact trivial|(refine⟨_,cC (enc:=(bB M r)) (x:=(⟨z0.kind,z0.name,z0.num,vX⟩:aH)) hM ⟨rfl,rfl,rfl,(eF hM agD),trivial⟩ rfl,?_⟩;cbv)|(refine⟨_,ax (enc:=(bB M r)) hI hM aht (fun _=>rfl) rfl (fun _=>rfl),?_⟩;cbv)|apply And.intro);all_goals exact bn
           cbv;refine letE h fun n39 agZ h=>⟨_,an hI hM agZ,?_⟩;cbv;cases h;first|exact Or.inl rfl|exact bn
          clear hj;cbv;refine⟨?_,trivial⟩;refine⟨_,cC (enc:=aq) (x:=j28) hM (ak _) rfl,?_⟩;cbv;refine⟨?_,trivial⟩;refine ag h fun l40 ahs h=>⟨_,ax (enc:=aq) hI hM ahs (fun _=>rfl) rfl (fun _=>rfl),?_⟩;cbv;refine⟨?_,trivial⟩;cases h;first|exact Or.inl rfl|exact bn
         clear hj;cbv;exact bY (oX _ _ h)
       cbv;refine ag h fun KO Fp h=>?_;apply Exists.intro;refine⟨?_,_,rfl,?_⟩
       ·cbv;(repeat' first|exact .inl rfl|exact trivial|(refine⟨_,ao hM Fp rfl,?_⟩;cbv)|apply And.intro);all_goals exact bn
       cbv;refine ag h fun k45 ams h=>?_
       (first|refine⟨_,⟨rfl,rfl,aK hI ams⟩,?_⟩|refine⟨_,aK hI ams,?_⟩)
       cbv;refine ag h fun x46 arF h=>⟨_,_,rfl,bA hM arF,rfl,?_⟩;cbv;refine ag h fun k47 asr h=>⟨_,gG hI hM asr,?_⟩;cbv;refine ag h fun x48 Oa h=>?_;refine ag h fun Ss JL h=>?_;refine ag h fun YP R4 h=>?_;apply Exists.intro;refine⟨?_,_,rfl,?_⟩
       ·cbv;(repeat' first|exact .inl rfl|exact trivial|(refine⟨_,_,_,⟨rfl,bA (enc:=(ay M r)) hM Oa,rfl,rfl⟩,?_⟩;cbv)|(refine⟨_,cC (enc:=(az M r)) (x:=(⟨pA.head,pA.aN,Nd,KO⟩:ah)) hM (ak _) rfl,?_⟩;cbv)|(refine⟨_,ax (enc:=(az M r)) hI hM JL (fun _=>rfl) rfl (fun _=>rfl),?_⟩;cbv)|((first|refine⟨_,su (enc:=(ay M r)) hI hM Oa R4 (show 2<3 from by decide) rfl,?_⟩|refine⟨rfl,rfl,rfl,_,su (enc:=(ay M r)) hI hM Oa R4 (show 2<3 from by decide) rfl,?_⟩);cbv)|apply And.intro);all_goals exact bn
       cbv;(try(refine⟨rfl,?_⟩;cbv));refine lW hI ?_;cbv;exact bY (ni _ _ h)
     cbv;exact bY (jO _ _ h)
   cbv;(try(refine⟨rfl,?_⟩;cbv));refine ag h fun u55 arT h=>?_;obtain rfl:=oJ h;cbv;(all_goals(repeat' apply And.intro));all_goals first|trivial|rfl|exact(aJ hM)|exact(eF hM arT)
 cbv;cases h
end Ab
