/- PassesBlocks holds of all cores and names (no condition): a part of the proof: an abstract interpreter of the code that is proved sound, models of the functions, and laws of these models. -/
import Derived.Test.YtcdinjhcnhepeaaGreatDoorB03
import Derived.Test.YtcdinjhcnhepeaaGreatDoorB04
import Derived.Test.YtcdinjhcnhepeaaGreatDoorB05
import Derived.Test.YtcdinjhcnhepeaaGreatDoorB06
set_option linter.unusedVariables false
set_option linter.unusedSimpArgs false
set_option linter.unusedSectionVars false
namespace Ab
open Go Go.Proofs.Tryz
set_option maxHeartbeats 100000000
set_option maxRecDepth 100000
variable{I:Pr}(hI:I=al){M:Md}(hM:M= .al){n nx r s p q u rl:Nat}{g:Nat→Option Ob}
 include hI hM
theorem tS{a0:af}{v:af×Int}(h:sC I M n a0=some v):
  cv 12 [(.agg (aZ M p a0))] (.gw [(.agg (aZ M r v.1)),(vi v.2)]) g nx:=by
 refine yi func12 c12 r afJ aj7 [5] 16 ntmps12 [.cell 2 24,.tmp 3] hI (bp.cons (o7 r) (bp.cons (sm r) (bp.cons (abC r) (bp.cons (abD r) (bp.cons (uW r) (bp.cons (xS r) (sX PP gL))))))) 8 fun call hc=>?_;cbv;refine ag h fun y1 c9 h=>⟨_,_,_,us hc (dh hI hM c9),?_⟩;cbv;refine si h (fun h=>by cbv;cases h;exact fin) fun h=>?_;cbv;refine letE h fun n2 oC h=>⟨_,an hI hM oC,?_⟩;cbv;refine kD n (fun mK aW=>?_);cbv;refine si h (fun h=>?_) fun h=>?_
 ·as_aux_lemma=>
   cbv;refine ag h fun x3 me h=>⟨_,ao hM me rfl,?_⟩;cbv;refine⟨_,Q9 (by rfl),?_⟩;cbv;refine ag h fun l4 M9 h=>⟨qP hI M9,_,_,zd (enc:=(ay M r)) hI hM M9 (by have e0:=aJ (enc:=(az M r)) hM;simp only[ay,vi,vs,vb,cq,eD,e0]),?_⟩;cbv;refine aW _ (lpD h [50009] (fun(l5,z6)=>[(19,(vi z6)),(20,.any)]) (fun(l5,z6)=>[(50007,.box [(.eW (.s 50031) (M.ln l5))]),(50031,.ow (.sl 3) none (M.map (ay M r) l5))]) fun D0 m2 eM st h=>?_);obtain⟨l5,z6⟩:=st;dsimp only[vC]at h;cbv;refine si h (fun h=>?_) fun h=>?_
   ·cbv;refine ag h fun x7 RW h=>⟨_,ao hM RW rfl,?_⟩;cbv;refine⟨_,Q9 (by rfl),?_⟩;cbv;refine ag h fun l8 RZ h=>?_
    (refine⟨_,_,FF (enc:=(ay M r)) hI hM RZ ?_,?_⟩;next=>have e0:=aJ (enc:=(az M r)) hM;simp only[ay,vi,vs,vb,cq,eD,e0])
    cbv;exact bY (eM _ _ h)
   cbv;intro l;cbv;refine letE h fun yG BQ h=>⟨_,an hI hM BQ,?_⟩;cbv;refine lp h (fun(gJ,zW,fc)=>[(10,(vi fc))]) (fun(gJ,zW,fc)=>[(5,.box [(.sl p (M.map bV gJ))]),(50031,.ow (.sl 3) none (M.map (ay M r) zW))]) fun Nl m3 jO st h=>?_;obtain⟨gJ,zW,fc⟩:=st;dsimp only[vB]at h;cbv;refine si h (fun h=>?_) fun h=>?_
   ·as_aux_lemma=>
     cbv;refine ag h fun vw Fs h=>⟨_,ao hM Fs rfl,?_⟩;cbv;refine letE h fun CW BP h=>⟨_,an hI hM BP,?_⟩;cbv;refine lp h (fun(zu,uL,fM)=>[(18,(vi fM))]) (fun(zu,uL,fM)=>[(5,.box [(.sl p (M.map bV zu))]),(50031,.ow (.sl 3) none (M.map (ay M r) uL))]) fun Tf m4 ni st h=>?_;obtain⟨zu,uL,fM⟩:=st;dsimp only[vA]at h;cbv;refine si h (fun h=>?_) fun h=>?_
     ·as_aux_lemma=>
       cbv;refine ag h fun eR JE h=>⟨_,ao hM JE rfl,?_⟩;cbv;(try(refine⟨⟨rfl,rfl,rfl⟩,?_⟩;cbv));refine letE h fun vE JM h=>⟨_,⟨rfl,gA (enc:=aq) hI hM JM rfl⟩,?_⟩;cbv;refine ag h fun Zg Aq h=>?_
       (first|refine⟨_,⟨aS hI hM Aq,qh (enc:=aq) (l:=[fc,fM]) hI hM rfl⟩,?_⟩|refine⟨_,⟨rfl,aS hI hM Aq,rfl,rfl,qh (enc:=aq) (l:=[fc,fM]) hI hM rfl⟩,?_⟩)
       cbv;(try(refine⟨rfl,?_⟩;cbv));refine ag h fun T5 tf h=>?_
       (first|refine⟨⟨rfl,aS hI hM tf,rfl⟩,?_⟩|refine⟨⟨aS hI hM tf,trivial⟩,?_⟩|refine⟨aS hI hM tf,?_⟩)
       cbv;(try(refine⟨⟨by decide,by decide⟩,?_⟩;cbv));refine ag h fun k24 LH h=>?_;refine ag h fun z0 Of h=>?_;refine ag h fun x26 arK h=>?_;refine ag h fun k27 amw h=>?_;refine ag h fun x28 arJ h=>?_;refine ag h fun sx US h=>?_;refine ag h fun KM LD h=>?_;apply Exists.intro;refine⟨?_,_,rfl,?_⟩
       ·cbv;(repeat' first|exact .inl rfl|exact trivial|((first|refine⟨_,⟨rfl,rfl,aK hI LH⟩,?_⟩|refine⟨_,aK hI LH,?_⟩);cbv)|(refine⟨_,_,rfl,bA hM Of,rfl,?_⟩;cbv)|(refine⟨_,ao hM arK rfl,?_⟩;cbv)|((first|refine⟨_,⟨rfl,rfl,aK hI amw⟩,?_⟩|refine⟨_,aK hI amw,?_⟩);cbv)|(refine⟨_,_,rfl,bA hM arJ,rfl,?_⟩;cbv)|(refine⟨_,ao hM US rfl,?_⟩;cbv)|(refine⟨_,_,_,us hc (DQ hI hM LD),?_⟩;cbv)|apply And.intro);all_goals exact bn
       cbv;apply Exists.intro;refine⟨?_,_,rfl,?_⟩
       ·cbv;(repeat' first|exact .inl rfl|exact trivial|apply And.intro);all_goals exact bn
       cbv;refine letE h fun n31 Ou h=>⟨_,an hI hM Ou,?_⟩;cbv;refine lp h (fun(zV,vX,vV)=>[(56,(vi vV))]) (fun(zV,vX,vV)=>[(12858018,.box [(vs eR.head),(vi eR.aN),(.gs r (.c 12858018 2) (M.map (bB M r) zV)),(vi 0),(.gs r (.c 12858018 4) (M.map aq vX)),(.v .nilFunc)])]) fun TG m5 oX st h=>?_;obtain⟨zV,vX,vV⟩:=st;dsimp only[vz]at h;cbv;refine si h (fun h=>?_) fun h=>?_
       ·as_aux_lemma=>
         cbv;refine ag h fun rz JD h=>⟨_,ao hM JD rfl,?_⟩;cbv;refine kZ h fun SB Hh hj h=>?_;dsimp only at h;refine aY none [(13,.any),(14,.any)] [(12858018,.box [(vs eR.head),(vi eR.aN),(.gs r (.c 12858018 2) (M.map (bB M r) SB)),(vi 0),(.gs r (.c 12858018 4) (M.map aq Hh)),(.v .nilFunc)])] g nx ?_ ?_
         ·replace h:=hj;cbv;refine⟨?_,?_⟩
          ·refine⟨?_,trivial⟩;refine ag h fun x38 ago h=>⟨_,fun hp=>ao hM (aD ago hp.1) rfl,?_⟩;cbv;refine si h (fun h=>?_) fun h=>?_
           ·as_aux_lemma=>
             cbv;refine kZ h fun DK j40 hj h=>?_;dsimp only at h;refine aY none [(7,(vi DK)),(0,.any),(6,.any)] [(12858018,.box [(vs eR.head),(vi eR.aN),(.gs r (.c 12858018 2) (M.map (bB M r) j40)),(vi 0),(.gs r (.c 12858018 4) (M.map aq vX)),(.v .nilFunc)])] g nx ?_ ?_
             ·replace h:=hj;cbv;refine⟨?_,trivial⟩;refine ag h fun Tn UE h=>⟨fun _=>rfl,(.sl r (M.map aq Tn)),g,nx,fun ρ=>by cbv;exact us hc (aT hI hM UE),?_⟩;cbv;refine⟨?_,trivial⟩;refine letE h fun n42 Vf h=>⟨_,an hI hM Vf,?_⟩;cbv;refine ag h fun Nc OC h=>⟨_,_,gf (enc:=aq) hI hM OC (by decide) rfl,?_⟩;cbv;refine letE h fun Eo FA h=>?_;refine letE h fun Tp Fw h=>⟨_,_,ix (enc:=aq) hI hM FA Fw rfl (fun _=>rfl) (fun _=>rfl),?_⟩;cbv;refine⟨_,an hI hM Vf,?_⟩;cbv;refine si h (fun h=>?_) fun h=>?_
              ·cbv;refine ag h fun l46 ahr h=>?_;apply Exists.intro;refine⟨?_,_,rfl,?_⟩
               ·cbv;(repeat' first|exact .inl rfl|exact trivial|(refine⟨_,cC (enc:=(bB M r)) (x:=(⟨5,rz.name,rz.num,[]⟩:aH)) hM ⟨rfl,rfl,rfl,(aJ hM),trivial⟩ rfl,?_⟩;cbv)|(refine⟨_,ax (enc:=(bB M r)) hI hM ahr (fun _=>rfl) rfl (fun _=>rfl),?_⟩;cbv)|apply And.intro);all_goals exact bn
               cbv;refine letE h fun n47 agX h=>⟨_,an hI hM agX,?_⟩;cbv;cases h;first|exact Or.inl rfl|exact bn
              cbv;refine ag h fun u48 agy h=>?_;refine ag h fun Ss JL h=>?_;apply Exists.intro;refine⟨?_,_,rfl,?_⟩
              ·cbv;(repeat' first|exact .inl rfl|exact trivial|(refine⟨_,cC (enc:=(bB M r)) (x:=(⟨5,rz.name,rz.num,Eo⟩:aH)) hM ⟨rfl,rfl,rfl,(eF hM agy),trivial⟩ rfl,?_⟩;cbv)|(refine⟨_,ax (enc:=(bB M r)) hI hM JL (fun _=>rfl) rfl (fun _=>rfl),?_⟩;cbv)|apply And.intro);all_goals exact bn
              cbv;refine letE h fun n50 Oo h=>⟨_,an hI hM Oo,?_⟩;cbv;cases h;first|exact Or.inl rfl|exact bn
             clear hj;cbv;refine⟨?_,trivial⟩;refine⟨_,cC (enc:=aq) (x:=DK) hM (ak _) rfl,?_⟩;cbv;refine⟨?_,trivial⟩;refine ag h fun l51 ahq h=>⟨_,ax (enc:=aq) hI hM ahq (fun _=>rfl) rfl (fun _=>rfl),?_⟩;cbv;refine⟨?_,trivial⟩;cases h;first|exact Or.inl rfl|exact bn
           cbv;refine kZ h fun j52 j53 hj h=>?_;dsimp only at h;refine aY none [(7,(vi j52)),(0,.any),(6,.any)] [(12858018,.box [(vs eR.head),(vi eR.aN),(.gs r (.c 12858018 2) (M.map (bB M r) j53)),(vi 0),(.gs r (.c 12858018 4) (M.map aq vX)),(.v .nilFunc)])] g nx ?_ ?_
           ·replace h:=hj;cbv;refine⟨?_,trivial⟩;refine ag h fun Yy RQ h=>⟨fun _=>rfl,(.sl r (M.map aq Yy)),g,nx,fun ρ=>by cbv;exact us hc (aT hI hM RQ),?_⟩;cbv;refine⟨?_,trivial⟩;refine letE h fun n55 Vd h=>⟨_,an hI hM Vd,?_⟩;cbv;refine ag h fun Sq Hg h=>⟨_,_,gf (enc:=aq) hI hM Hg (by decide) rfl,?_⟩;cbv;refine letE h fun WJ Ox h=>?_;refine letE h fun Wj BO h=>⟨_,_,ix (enc:=aq) hI hM Ox BO rfl (fun _=>rfl) (fun _=>rfl),?_⟩;cbv;refine⟨_,an hI hM Vd,?_⟩;cbv;refine si h (fun h=>?_) fun h=>?_
            ·cbv;refine ag h fun Qu JK h=>?_;apply Exists.intro;refine⟨?_,_,rfl,?_⟩
             ·cbv;(repeat' first|exact .inl rfl|exact trivial|(refine⟨_,cC (enc:=(bB M r)) (x:=(⟨rz.kind,rz.name,rz.num,[]⟩:aH)) hM ⟨rfl,rfl,rfl,(aJ hM),trivial⟩ rfl,?_⟩;cbv)|(refine⟨_,ax (enc:=(bB M r)) hI hM JK (fun _=>rfl) rfl (fun _=>rfl),?_⟩;cbv)|apply And.intro);all_goals exact bn
             cbv;refine letE h fun n60 agV h=>⟨_,an hI hM agV,?_⟩;cbv;cases h;first|exact Or.inl rfl|exact bn
            cbv;refine ag h fun u61 agv h=>?_;refine ag h fun O4 Fz h=>?_;apply Exists.intro;refine⟨?_,_,rfl,?_⟩
            ·cbv;(repeat' first|exact .inl rfl|exact trivial|(refine⟨_,cC (enc:=(bB M r)) (x:=(⟨rz.kind,rz.name,rz.num,WJ⟩:aH)) hM ⟨rfl,rfl,rfl,(eF hM agv),trivial⟩ rfl,?_⟩;cbv)|(refine⟨_,ax (enc:=(bB M r)) hI hM Fz (fun _=>rfl) rfl (fun _=>rfl),?_⟩;cbv)|apply And.intro);all_goals exact bn
            cbv;refine letE h fun OS Fu h=>⟨_,an hI hM Fu,?_⟩;cbv;cases h;first|exact Or.inl rfl|exact bn
           clear hj;cbv;refine⟨?_,trivial⟩;refine⟨_,cC (enc:=aq) (x:=j52) hM (ak _) rfl,?_⟩;cbv;refine⟨?_,trivial⟩;refine ag h fun Sp JJ h=>⟨_,ax (enc:=aq) hI hM JJ (fun _=>rfl) rfl (fun _=>rfl),?_⟩;cbv;refine⟨?_,trivial⟩;cases h;first|exact Or.inl rfl|exact bn
          refine⟨?_,trivial⟩;refine ag h fun x38 ago h=>⟨_,fun hp=>ao hM (aD ago hp.1) rfl,?_⟩;cbv;refine si h (fun h=>?_) fun h=>?_
          ·as_aux_lemma=>
            cbv;refine kZ h fun DK j40 hj h=>?_;dsimp only at h;refine aY none [(7,(vi DK)),(0,.any),(6,.any)] [(12858018,.box [(vs eR.head),(vi eR.aN),(.gs r (.c 12858018 2) (M.map (bB M r) j40)),(vi 0),(.gs r (.c 12858018 4) (M.map aq vX)),(.v .nilFunc)])] g nx ?_ ?_
            ·replace h:=hj;cbv;refine⟨?_,trivial⟩;refine ag h fun Tn UE h=>⟨fun _=>rfl,(.sl r (M.map aq Tn)),g,nx,fun ρ=>by cbv;exact us hc (aT hI hM UE),?_⟩;cbv;refine⟨?_,trivial⟩;refine letE h fun n42 Vf h=>⟨_,an hI hM Vf,?_⟩;cbv;refine ag h fun Nc OC h=>⟨_,_,gf (enc:=aq) hI hM OC (by decide) rfl,?_⟩;cbv;refine letE h fun Eo FA h=>?_;refine letE h fun Tp Fw h=>⟨_,_,ix (enc:=aq) hI hM FA Fw rfl (fun _=>rfl) (fun _=>rfl),?_⟩;cbv;refine⟨_,an hI hM Vf,?_⟩;cbv;refine si h (fun h=>?_) fun h=>?_
             ·cbv;refine ag h fun l46 ahr h=>?_;apply Exists.intro;refine⟨?_,_,rfl,?_⟩
              ·cbv;(repeat' first|exact .inl rfl|exact trivial|(refine⟨_,cC (enc:=(bB M r)) (x:=(⟨5,rz.name,rz.num,[]⟩:aH)) hM ⟨rfl,rfl,rfl,(aJ hM),trivial⟩ rfl,?_⟩;cbv)|(refine⟨_,ax (enc:=(bB M r)) hI hM ahr (fun _=>rfl) rfl (fun _=>rfl),?_⟩;cbv)|apply And.intro);all_goals exact bn
              cbv;refine letE h fun n47 agX h=>⟨_,an hI hM agX,?_⟩;cbv;cases h;first|exact Or.inl rfl|exact bn
             cbv;refine ag h fun u48 agy h=>?_;refine ag h fun Ss JL h=>?_;apply Exists.intro;refine⟨?_,_,rfl,?_⟩
             ·cbv;(repeat' first|exact .inl rfl|exact trivial|(refine⟨_,cC (enc:=(bB M r)) (x:=(⟨5,rz.name,rz.num,Eo⟩:aH)) hM ⟨rfl,rfl,rfl,(eF hM agy),trivial⟩ rfl,?_⟩;cbv)|(refine⟨_,ax (enc:=(bB M r)) hI hM JL (fun _=>rfl) rfl (fun _=>rfl),?_⟩;cbv)|apply And.intro);all_goals exact bn
             cbv;refine letE h fun n50 Oo h=>⟨_,an hI hM Oo,?_⟩;cbv;cases h;first|exact Or.inl rfl|exact bn
            clear hj;cbv;refine⟨?_,trivial⟩;refine⟨_,cC (enc:=aq) (x:=DK) hM (ak _) rfl,?_⟩;cbv;refine⟨?_,trivial⟩;refine ag h fun l51 ahq h=>⟨_,ax (enc:=aq) hI hM ahq (fun _=>rfl) rfl (fun _=>rfl),?_⟩;cbv;refine⟨?_,trivial⟩;cases h;first|exact Or.inl rfl|exact bn
          cbv;refine kZ h fun j52 j53 hj h=>?_;dsimp only at h;refine aY none [(7,(vi j52)),(0,.any),(6,.any)] [(12858018,.box [(vs eR.head),(vi eR.aN),(.gs r (.c 12858018 2) (M.map (bB M r) j53)),(vi 0),(.gs r (.c 12858018 4) (M.map aq vX)),(.v .nilFunc)])] g nx ?_ ?_
          ·replace h:=hj;cbv;refine⟨?_,trivial⟩;refine ag h fun Yy RQ h=>⟨fun _=>rfl,(.sl r (M.map aq Yy)),g,nx,fun ρ=>by cbv;exact us hc (aT hI hM RQ),?_⟩;cbv;refine⟨?_,trivial⟩;refine letE h fun n55 Vd h=>⟨_,an hI hM Vd,?_⟩;cbv;refine ag h fun Sq Hg h=>⟨_,_,gf (enc:=aq) hI hM Hg (by decide) rfl,?_⟩;cbv;refine letE h fun WJ Ox h=>?_;refine letE h fun Wj BO h=>⟨_,_,ix (enc:=aq) hI hM Ox BO rfl (fun _=>rfl) (fun _=>rfl),?_⟩;cbv;refine⟨_,an hI hM Vd,?_⟩;cbv;refine si h (fun h=>?_) fun h=>?_
           ·cbv;refine ag h fun Qu JK h=>?_;apply Exists.intro;refine⟨?_,_,rfl,?_⟩
            ·cbv;(repeat' first|exact .inl rfl|exact trivial|(refine⟨_,cC (enc:=(bB M r)) (x:=(⟨rz.kind,rz.name,rz.num,[]⟩:aH)) hM ⟨rfl,rfl,rfl,(aJ hM),trivial⟩ rfl,?_⟩;cbv)|(refine⟨_,ax (enc:=(bB M r)) hI hM JK (fun _=>rfl) rfl (fun _=>rfl),?_⟩;cbv)|apply And.intro);all_goals exact bn
            cbv;refine letE h fun n60 agV h=>⟨_,an hI hM agV,?_⟩;cbv;cases h;first|exact Or.inl rfl|exact bn
           cbv;refine ag h fun u61 agv h=>?_;refine ag h fun O4 Fz h=>?_;apply Exists.intro;refine⟨?_,_,rfl,?_⟩
           ·cbv;(repeat' first|exact .inl rfl|exact trivial|(refine⟨_,cC (enc:=(bB M r)) (x:=(⟨rz.kind,rz.name,rz.num,WJ⟩:aH)) hM ⟨rfl,rfl,rfl,(eF hM agv),trivial⟩ rfl,?_⟩;cbv)|(refine⟨_,ax (enc:=(bB M r)) hI hM Fz (fun _=>rfl) rfl (fun _=>rfl),?_⟩;cbv)|apply And.intro);all_goals exact bn
           cbv;refine letE h fun OS Fu h=>⟨_,an hI hM Fu,?_⟩;cbv;cases h;first|exact Or.inl rfl|exact bn
          clear hj;cbv;refine⟨?_,trivial⟩;refine⟨_,cC (enc:=aq) (x:=j52) hM (ak _) rfl,?_⟩;cbv;refine⟨?_,trivial⟩;refine ag h fun Sp JJ h=>⟨_,ax (enc:=aq) hI hM JJ (fun _=>rfl) rfl (fun _=>rfl),?_⟩;cbv;refine⟨?_,trivial⟩;cases h;first|exact Or.inl rfl|exact bn
         clear hj;cbv;exact bY (oX _ _ h)
       cbv;refine ag h fun x68 agi h=>?_;apply Exists.intro;refine⟨?_,_,rfl,?_⟩
       ·cbv;(repeat' first|exact .inl rfl|exact trivial|(refine⟨_,ao hM agi rfl,?_⟩;cbv)|apply And.intro);all_goals exact bn
       cbv;refine ag h fun k69 aap h=>?_
       (first|refine⟨_,⟨rfl,rfl,aK hI aap⟩,?_⟩|refine⟨_,aK hI aap,?_⟩)
       cbv;refine ag h fun x70 UN h=>⟨_,_,rfl,bA hM UN,rfl,?_⟩;cbv;refine ag h fun k71 aso h=>⟨_,gG hI hM aso,?_⟩;cbv;refine ag h fun x72 UM h=>?_;refine ag h fun WH Vt h=>?_;refine ag h fun l74 R3 h=>?_;apply Exists.intro;refine⟨?_,_,rfl,?_⟩
       ·cbv;(repeat' first|exact .inl rfl|exact trivial|(refine⟨_,_,_,⟨rfl,bA (enc:=(ay M r)) hM UM,rfl,rfl⟩,?_⟩;cbv)|(refine⟨_,cC (enc:=(az M r)) (x:=(⟨eR.head,eR.aN,zV,x68⟩:ah)) hM (ak _) rfl,?_⟩;cbv)|(refine⟨_,ax (enc:=(az M r)) hI hM Vt (fun _=>rfl) rfl (fun _=>rfl),?_⟩;cbv)|((first|refine⟨_,su (enc:=(ay M r)) hI hM UM R3 (show 2<3 from by decide) rfl,?_⟩|refine⟨rfl,rfl,rfl,_,su (enc:=(ay M r)) hI hM UM R3 (show 2<3 from by decide) rfl,?_⟩);cbv)|apply And.intro);all_goals exact bn
       cbv;(try(refine⟨rfl,?_⟩;cbv));refine lW hI ?_;cbv;exact bY (ni _ _ h)
     cbv;exact bY (jO _ _ h)
   cbv;(try(refine⟨rfl,?_⟩;cbv));refine ag h fun u81 arQ h=>?_;obtain rfl:=oJ h;cbv;(all_goals(repeat' apply And.intro));all_goals first|trivial|rfl|exact(aJ hM)|exact(eF hM arQ)
 cbv;cases h
end Ab
