/- PassesBlocks holds of all cores and names (no condition): a part of the proof: an abstract interpreter of the code that is proved sound, models of the functions, and laws of these models. -/
import Derived.Test.YtcdinjhcnhepeaaGreatDoorB03
import Derived.Test.YtcdinjhcnhepeaaGreatDoorB04
import Derived.Test.YtcdinjhcnhepeaaGreatDoorB05
import Derived.Test.YtcdinjhcnhepeaaGreatDoorB06
import Derived.Test.YtcdinjhcnhepeaaGreatDoorB15
set_option linter.unusedVariables false
set_option linter.unusedSimpArgs false
set_option linter.unusedSectionVars false
namespace Ab
open Go Go.Proofs.Tryz
set_option maxHeartbeats 100000000
set_option maxRecDepth 100000
variable{I:Pr}(hI:I=al){M:Md}(hM:M= .al){n nx r s p q u rl:Nat}{g:Nat→Option Ob}
 include hI hM
theorem pQ{a0:af}{v:af×Int}(h:gd I M n a0=some v):
  cv 30 [(.agg (aZ M p a0))] (.gw [(.agg (aZ M r v.1)),(vi v.2)]) g nx:=by
 refine yi func30 c30 r afy ajW [5] 42 ntmps30 [.cell 2 24,.tmp 3] hI (bp.cons (o7 r) (bp.cons (sm r) (bp.cons (abz r) (bp.cons (QT r) (bp.cons (uW r) (bp.cons (xS r) (sX PP gL))))))) 8 fun call hc=>?_;cbv;refine ag h fun y1 c9 h=>⟨_,_,_,us hc (dh hI hM c9),?_⟩;cbv;refine si h (fun h=>by cbv;cases h;exact fin) fun h=>?_;cbv;refine ag h fun y2 uz h=>⟨_,_,_,us hc (sn hI hM uz),?_⟩;cbv;refine letE h fun l3 To h=>⟨_,⟨rfl,gA (enc:=aq) hI hM To rfl⟩,?_⟩;cbv;refine ag h fun u4 qu4 h=>?_
 (first|refine⟨⟨rfl,rfl,rfl,aS hI hM qu4,rfl,(by have hq:=dq (enc:=aq) hM (fun _=>rfl) y2;rw[ep.eq_def]at hq;exact hq)⟩,?_⟩|refine⟨⟨aS hI hM qu4,(by have hq:=dq (enc:=aq) hM (fun _=>rfl) y2;rw[ep.eq_def]at hq;exact hq)⟩,?_⟩)
 cbv;refine letE h fun n5 qn5 h=>⟨_,an hI hM qn5,?_⟩;cbv;refine kD n (fun mK aW=>?_);cbv;refine si h (fun h=>?_) fun h=>?_
 ·as_aux_lemma=>
   cbv;refine ag h fun x6 Fo h=>⟨_,ao hM Fo rfl,?_⟩;cbv;refine⟨_,Q9 (by rfl),?_⟩;cbv;refine ag h fun l7 ql7 h=>⟨qP hI ql7,_,_,zd (enc:=(ay M r)) hI hM ql7 (by have e0:=aJ (enc:=(az M r)) hM;simp only[ay,vi,vs,vb,cq,eD,e0]),?_⟩;cbv;refine aW _ (lpD h [50009] (fun(l8,z9)=>[(19,(vi z9)),(20,.any)]) (fun(l8,z9)=>[(50007,.box [(.eW (.s 50031) (M.ln l8))]),(50031,.ow (.sl 3) none (M.map (ay M r) l8))]) fun D0 m2 eM st h=>?_);obtain⟨l8,z9⟩:=st;dsimp only[g0]at h;cbv;refine si h (fun h=>?_) fun h=>?_
   ·cbv;refine ag h fun Dz BN h=>⟨_,ao hM BN rfl,?_⟩;cbv;refine⟨_,Q9 (by rfl),?_⟩;cbv;refine ag h fun zX VG h=>?_
    (refine⟨_,_,FF (enc:=(ay M r)) hI hM VG ?_,?_⟩;next=>have e0:=aJ (enc:=(az M r)) hM;simp only[ay,vi,vs,vb,cq,eD,e0])
    cbv;exact bY (eM _ _ h)
   cbv;intro l;cbv;refine letE h fun DG Fx h=>⟨_,an hI hM Fx,?_⟩;cbv;refine lp h (fun(vN,kr)=>[(10,(vi kr))]) (fun(vN,kr)=>[(50031,.ow (.sl 3) none (M.map (ay M r) vN))]) fun Nl m3 jO st h=>?_;obtain⟨vN,kr⟩:=st;dsimp only[gZ]at h;cbv;refine si h (fun h=>?_) fun h=>?_
   ·as_aux_lemma=>
     cbv;refine ag h fun pA zb h=>⟨_,ao hM zb rfl,?_⟩;cbv;refine letE h fun OU Ov h=>⟨_,an hI hM Ov,?_⟩;cbv;refine lp h (fun(Sv,ED)=>[(18,(vi ED))]) (fun(Sv,ED)=>[(50031,.ow (.sl 3) none (M.map (ay M r) Sv))]) fun Tf m4 ni st h=>?_;obtain⟨Sv,ED⟩:=st;dsimp only[gY]at h;cbv;refine si h (fun h=>?_) fun h=>?_
     ·as_aux_lemma=>
       cbv;refine ag h fun Aa agq h=>⟨_,ao hM agq rfl,?_⟩;cbv;(try(refine⟨⟨rfl,rfl,rfl⟩,?_⟩;cbv));refine letE h fun Nd ash h=>⟨_,⟨rfl,gA (enc:=aq) hI hM ash rfl⟩,?_⟩;cbv;refine ag h fun T5 tf h=>?_
       (first|refine⟨_,⟨aS hI hM tf,qh (enc:=aq) (l:=[kr,ED]) hI hM rfl⟩,?_⟩|refine⟨_,⟨rfl,aS hI hM tf,rfl,rfl,qh (enc:=aq) (l:=[kr,ED]) hI hM rfl⟩,?_⟩)
       cbv;(try(refine⟨rfl,?_⟩;cbv));refine ag h fun u24 zc h=>?_
       (first|refine⟨⟨rfl,aS hI hM zc,rfl⟩,?_⟩|refine⟨⟨aS hI hM zc,trivial⟩,?_⟩|refine⟨aS hI hM zc,?_⟩)
       cbv;(try(refine⟨⟨by decide,by decide⟩,?_⟩;cbv));apply Exists.intro;refine⟨?_,_,rfl,?_⟩
       ·cbv;(repeat' first|exact .inl rfl|exact trivial|apply And.intro);all_goals exact bn
       cbv;refine letE h fun n25 ar5 h=>⟨_,an hI hM ar5,?_⟩;cbv;refine lp h (fun(H8,nV,Dv)=>[(56,(vi Dv))]) (fun(H8,nV,Dv)=>[(12887004,.box [(vs Aa.head),(vi Aa.aN),(.gs r (.c 12887004 2) (M.map (bB M r) H8)),(vi 0),(.gs r (.c 12887004 4) (M.map aq nV)),(.v .nilFunc)])]) fun TG m5 oX st h=>?_;obtain⟨H8,nV,Dv⟩:=st;dsimp only[gX]at h;cbv;refine si h (fun h=>?_) fun h=>?_
       ·as_aux_lemma=>
         cbv;refine ag h fun sx US h=>⟨_,ao hM US rfl,?_⟩;cbv;refine kZ h fun j30 WU hj h=>?_;dsimp only at h;refine aY none [(13,.any),(14,.any)] [(12887004,.box [(vs Aa.head),(vi Aa.aN),(.gs r (.c 12887004 2) (M.map (bB M r) j30)),(vi 0),(.gs r (.c 12887004 4) (M.map aq WU)),(.v .nilFunc)])] g nx ?_ ?_
         ·replace h:=hj;cbv;refine⟨?_,?_⟩
          ·refine⟨?_,trivial⟩;refine ag h fun y32 RS h=>⟨_,_,_,us hc (cR hI hM RS),?_⟩;cbv;refine si h (fun h=>?_) fun h=>?_
           ·as_aux_lemma=>
             cbv;refine ag h fun xW Fm h=>⟨_,_,_,us hc (iK hI hM Fm),?_⟩;cbv;refine ag h fun k34 VR h=>?_;refine ag h fun rz JD h=>?_;refine ag h fun I5 Fq h=>?_;apply Exists.intro;refine⟨?_,_,rfl,?_⟩
             ·cbv;(repeat' first|exact .inl rfl|exact trivial|((first|refine⟨_,⟨rfl,rfl,aK hI VR⟩,?_⟩|refine⟨_,aK hI VR,?_⟩);cbv)|(refine⟨_,_,rfl,bA hM JD,rfl,?_⟩;cbv)|(refine⟨_,ao hM Fq rfl,?_⟩;cbv)|apply And.intro);all_goals exact bn
             cbv;refine kZ h fun Hh uR hj h=>?_;dsimp only at h;refine aY none [(8,(vi Hh)),(0,.any),(7,.any)] [(12887004,.box [(vs Aa.head),(vi Aa.aN),(.gs r (.c 12887004 2) (M.map (bB M r) uR)),(vi 0),(.gs r (.c 12887004 4) (M.map aq nV)),(.v .nilFunc)])] g nx ?_ ?_
             ·replace h:=hj;cbv;refine⟨?_,trivial⟩;refine ag h fun TO UF h=>⟨fun _=>rfl,(.sl r (M.map aq TO)),g,nx,fun ρ=>by cbv;exact us hc (aT hI hM UF),?_⟩;cbv;refine⟨?_,trivial⟩;refine letE h fun n40 Vg h=>⟨_,an hI hM Vg,?_⟩;cbv;refine ag h fun Tt OE h=>⟨_,_,gf (enc:=aq) hI hM OE (by decide) rfl,?_⟩;cbv;refine letE h fun H7 OD h=>?_;refine letE h fun n43 JI h=>⟨_,_,ix (enc:=aq) hI hM OD JI rfl (fun _=>rfl) (fun _=>rfl),?_⟩;cbv;refine⟨_,an hI hM Vg,?_⟩;cbv;refine si h (fun h=>?_) fun h=>?_
              ·cbv;refine ag h fun Eo FA h=>?_;apply Exists.intro;refine⟨?_,_,rfl,?_⟩
               ·cbv;(repeat' first|exact .inl rfl|exact trivial|(refine⟨_,cC (enc:=(bB M r)) (x:=(⟨sx.kind,I5.name,sx.num,[]⟩:aH)) hM ⟨rfl,rfl,rfl,(aJ hM),trivial⟩ rfl,?_⟩;cbv)|(refine⟨_,ax (enc:=(bB M r)) hI hM FA (fun _=>rfl) rfl (fun _=>rfl),?_⟩;cbv)|apply And.intro);all_goals exact bn
               cbv;refine letE h fun Tp Fw h=>⟨_,an hI hM Fw,?_⟩;cbv;cases h;first|exact Or.inl rfl|exact bn
              cbv;refine ag h fun u46 U6 h=>?_;refine ag h fun Ml OA h=>?_;apply Exists.intro;refine⟨?_,_,rfl,?_⟩
              ·cbv;(repeat' first|exact .inl rfl|exact trivial|(refine⟨_,cC (enc:=(bB M r)) (x:=(⟨sx.kind,I5.name,sx.num,H7⟩:aH)) hM ⟨rfl,rfl,rfl,(eF hM U6),trivial⟩ rfl,?_⟩;cbv)|(refine⟨_,ax (enc:=(bB M r)) hI hM OA (fun _=>rfl) rfl (fun _=>rfl),?_⟩;cbv)|apply And.intro);all_goals exact bn
              cbv;refine letE h fun Na Fv h=>⟨_,an hI hM Fv,?_⟩;cbv;cases h;first|exact Or.inl rfl|exact bn
             clear hj;cbv;refine⟨?_,trivial⟩;refine⟨_,cC (enc:=aq) (x:=Hh) hM (ak _) rfl,?_⟩;cbv;refine⟨?_,trivial⟩;refine ag h fun Ss JL h=>⟨_,ax (enc:=aq) hI hM JL (fun _=>rfl) rfl (fun _=>rfl),?_⟩;cbv;refine⟨?_,trivial⟩;cases h;first|exact Or.inl rfl|exact bn
           cbv;refine kZ h fun j50 j51 hj h=>?_;dsimp only at h;refine aY none [(8,(vi j50)),(0,.any),(7,.any)] [(12887004,.box [(vs Aa.head),(vi Aa.aN),(.gs r (.c 12887004 2) (M.map (bB M r) j51)),(vi 0),(.gs r (.c 12887004 4) (M.map aq nV)),(.v .nilFunc)])] g nx ?_ ?_
           ·replace h:=hj;cbv;refine⟨?_,trivial⟩;refine ag h fun PV RR h=>⟨fun _=>rfl,(.sl r (M.map aq PV)),g,nx,fun ρ=>by cbv;exact us hc (aT hI hM RR),?_⟩;cbv;refine⟨?_,trivial⟩;refine letE h fun n53 Ve h=>⟨_,an hI hM Ve,?_⟩;cbv;refine ag h fun Ts Oz h=>⟨_,_,gf (enc:=aq) hI hM Oz (by decide) rfl,?_⟩;cbv;refine letE h fun Tq Oy h=>?_;refine letE h fun n56 Om h=>⟨_,_,ix (enc:=aq) hI hM Oy Om rfl (fun _=>rfl) (fun _=>rfl),?_⟩;cbv;refine⟨_,an hI hM Ve,?_⟩;cbv;refine si h (fun h=>?_) fun h=>?_
            ·cbv;refine ag h fun WJ Ox h=>?_;apply Exists.intro;refine⟨?_,_,rfl,?_⟩
             ·cbv;(repeat' first|exact .inl rfl|exact trivial|(refine⟨_,cC (enc:=(bB M r)) (x:=(⟨sx.kind,sx.name,sx.num,[]⟩:aH)) hM ⟨rfl,rfl,rfl,(aJ hM),trivial⟩ rfl,?_⟩;cbv)|(refine⟨_,ax (enc:=(bB M r)) hI hM Ox (fun _=>rfl) rfl (fun _=>rfl),?_⟩;cbv)|apply And.intro);all_goals exact bn
             cbv;refine letE h fun Wj BO h=>⟨_,an hI hM BO,?_⟩;cbv;cases h;first|exact Or.inl rfl|exact bn
            cbv;refine ag h fun u59 agw h=>?_;refine ag h fun H5 Hf h=>?_;apply Exists.intro;refine⟨?_,_,rfl,?_⟩
            ·cbv;(repeat' first|exact .inl rfl|exact trivial|(refine⟨_,cC (enc:=(bB M r)) (x:=(⟨sx.kind,sx.name,sx.num,Tq⟩:aH)) hM ⟨rfl,rfl,rfl,(eF hM agw),trivial⟩ rfl,?_⟩;cbv)|(refine⟨_,ax (enc:=(bB M r)) hI hM Hf (fun _=>rfl) rfl (fun _=>rfl),?_⟩;cbv)|apply And.intro);all_goals exact bn
            cbv;refine letE h fun n61 Ol h=>⟨_,an hI hM Ol,?_⟩;cbv;cases h;first|exact Or.inl rfl|exact bn
           clear hj;cbv;refine⟨?_,trivial⟩;refine⟨_,cC (enc:=aq) (x:=j50) hM (ak _) rfl,?_⟩;cbv;refine⟨?_,trivial⟩;refine ag h fun O4 Fz h=>⟨_,ax (enc:=aq) hI hM Fz (fun _=>rfl) rfl (fun _=>rfl),?_⟩;cbv;refine⟨?_,trivial⟩;cases h;first|exact Or.inl rfl|exact bn
          refine⟨?_,trivial⟩;refine ag h fun y32 RS h=>⟨_,_,_,us hc (cR hI hM RS),?_⟩;cbv;refine si h (fun h=>?_) fun h=>?_
          ·as_aux_lemma=>
            cbv;refine ag h fun xW Fm h=>⟨_,_,_,us hc (iK hI hM Fm),?_⟩;cbv;refine ag h fun k34 VR h=>?_;refine ag h fun rz JD h=>?_;refine ag h fun I5 Fq h=>?_;apply Exists.intro;refine⟨?_,_,rfl,?_⟩
            ·cbv;(repeat' first|exact .inl rfl|exact trivial|((first|refine⟨_,⟨rfl,rfl,aK hI VR⟩,?_⟩|refine⟨_,aK hI VR,?_⟩);cbv)|(refine⟨_,_,rfl,bA hM JD,rfl,?_⟩;cbv)|(refine⟨_,ao hM Fq rfl,?_⟩;cbv)|apply And.intro);all_goals exact bn
            cbv;refine kZ h fun Hh uR hj h=>?_;dsimp only at h;refine aY none [(8,(vi Hh)),(0,.any),(7,.any)] [(12887004,.box [(vs Aa.head),(vi Aa.aN),(.gs r (.c 12887004 2) (M.map (bB M r) uR)),(vi 0),(.gs r (.c 12887004 4) (M.map aq nV)),(.v .nilFunc)])] g nx ?_ ?_
            ·replace h:=hj;cbv;refine⟨?_,trivial⟩;refine ag h fun TO UF h=>⟨fun _=>rfl,(.sl r (M.map aq TO)),g,nx,fun ρ=>by cbv;exact us hc (aT hI hM UF),?_⟩;cbv;refine⟨?_,trivial⟩;refine letE h fun n40 Vg h=>⟨_,an hI hM Vg,?_⟩;cbv;refine ag h fun Tt OE h=>⟨_,_,gf (enc:=aq) hI hM OE (by decide) rfl,?_⟩;cbv;refine letE h fun H7 OD h=>?_;refine letE h fun n43 JI h=>⟨_,_,ix (enc:=aq) hI hM OD JI rfl (fun _=>rfl) (fun _=>rfl),?_⟩;cbv;refine⟨_,an hI hM Vg,?_⟩;cbv;refine si h (fun h=>?_) fun h=>?_
             ·cbv;refine ag h fun Eo FA h=>?_;apply Exists.intro;refine⟨?_,_,rfl,?_⟩
              ·cbv;(repeat' first|exact .inl rfl|exact trivial|(refine⟨_,cC (enc:=(bB M r)) (x:=(⟨sx.kind,I5.name,sx.num,[]⟩:aH)) hM ⟨rfl,rfl,rfl,(aJ hM),trivial⟩ rfl,?_⟩;cbv)|(refine⟨_,ax (enc:=(bB M r)) hI hM FA (fun _=>rfl) rfl (fun _=>rfl),?_⟩;cbv)|apply And.intro);all_goals exact bn
              cbv;refine letE h fun Tp Fw h=>⟨_,an hI hM Fw,?_⟩;cbv;cases h;first|exact Or.inl rfl|exact bn
             cbv;refine ag h fun u46 U6 h=>?_;refine ag h fun Ml OA h=>?_;apply Exists.intro;refine⟨?_,_,rfl,?_⟩
             ·cbv;(repeat' first|exact .inl rfl|exact trivial|(refine⟨_,cC (enc:=(bB M r)) (x:=(⟨sx.kind,I5.name,sx.num,H7⟩:aH)) hM ⟨rfl,rfl,rfl,(eF hM U6),trivial⟩ rfl,?_⟩;cbv)|(refine⟨_,ax (enc:=(bB M r)) hI hM OA (fun _=>rfl) rfl (fun _=>rfl),?_⟩;cbv)|apply And.intro);all_goals exact bn
             cbv;refine letE h fun Na Fv h=>⟨_,an hI hM Fv,?_⟩;cbv;cases h;first|exact Or.inl rfl|exact bn
            clear hj;cbv;refine⟨?_,trivial⟩;refine⟨_,cC (enc:=aq) (x:=Hh) hM (ak _) rfl,?_⟩;cbv;refine⟨?_,trivial⟩;refine ag h fun Ss JL h=>⟨_,ax (enc:=aq) hI hM JL (fun _=>rfl) rfl (fun _=>rfl),?_⟩;cbv;refine⟨?_,trivial⟩;cases h;first|exact Or.inl rfl|exact bn
          cbv;refine kZ h fun j50 j51 hj h=>?_;dsimp only at h;refine aY none [(8,(vi j50)),(0,.any),(7,.any)] [(12887004,.box [(vs Aa.head),(vi Aa.aN),(.gs r (.c 12887004 2) (M.map (bB M r) j51)),(vi 0),(.gs r (.c 12887004 4) (M.map aq nV)),(.v .nilFunc)])] g nx ?_ ?_
          ·replace h:=hj;cbv;refine⟨?_,trivial⟩;refine ag h fun PV RR h=>⟨fun _=>rfl,(.sl r (M.map aq PV)),g,nx,fun ρ=>by cbv;exact us hc (aT hI hM RR),?_⟩;cbv;refine⟨?_,trivial⟩;refine letE h fun n53 Ve h=>⟨_,an hI hM Ve,?_⟩;cbv;refine ag h fun Ts Oz h=>⟨_,_,gf (enc:=aq) hI hM Oz (by decide) rfl,?_⟩;cbv;refine letE h fun Tq Oy h=>?_;refine letE h fun n56 Om h=>⟨_,_,ix (enc:=aq) hI hM Oy Om rfl (fun _=>rfl) (fun _=>rfl),?_⟩;cbv;refine⟨_,an hI hM Ve,?_⟩;cbv;refine si h (fun h=>?_) fun h=>?_
           ·cbv;refine ag h fun WJ Ox h=>?_;apply Exists.intro;refine⟨?_,_,rfl,?_⟩
            ·cbv;(repeat' first|exact .inl rfl|exact trivial|(refine⟨_,cC (enc:=(bB M r)) (x:=(⟨sx.kind,sx.name,sx.num,[]⟩:aH)) hM ⟨rfl,rfl,rfl,(aJ hM),trivial⟩ rfl,?_⟩;cbv)|(refine⟨_,ax (enc:=(bB M r)) hI hM Ox (fun _=>rfl) rfl (fun _=>rfl),?_⟩;cbv)|apply And.intro);all_goals exact bn
            cbv;refine letE h fun Wj BO h=>⟨_,an hI hM BO,?_⟩;cbv;cases h;first|exact Or.inl rfl|exact bn
           cbv;refine ag h fun u59 agw h=>?_;refine ag h fun H5 Hf h=>?_;apply Exists.intro;refine⟨?_,_,rfl,?_⟩
           ·cbv;(repeat' first|exact .inl rfl|exact trivial|(refine⟨_,cC (enc:=(bB M r)) (x:=(⟨sx.kind,sx.name,sx.num,Tq⟩:aH)) hM ⟨rfl,rfl,rfl,(eF hM agw),trivial⟩ rfl,?_⟩;cbv)|(refine⟨_,ax (enc:=(bB M r)) hI hM Hf (fun _=>rfl) rfl (fun _=>rfl),?_⟩;cbv)|apply And.intro);all_goals exact bn
           cbv;refine letE h fun n61 Ol h=>⟨_,an hI hM Ol,?_⟩;cbv;cases h;first|exact Or.inl rfl|exact bn
          clear hj;cbv;refine⟨?_,trivial⟩;refine⟨_,cC (enc:=aq) (x:=j50) hM (ak _) rfl,?_⟩;cbv;refine⟨?_,trivial⟩;refine ag h fun O4 Fz h=>⟨_,ax (enc:=aq) hI hM Fz (fun _=>rfl) rfl (fun _=>rfl),?_⟩;cbv;refine⟨?_,trivial⟩;cases h;first|exact Or.inl rfl|exact bn
         clear hj;cbv;exact bY (oX _ _ h)
       cbv;refine ag h fun x66 agk h=>?_;apply Exists.intro;refine⟨?_,_,rfl,?_⟩
       ·cbv;(repeat' first|exact .inl rfl|exact trivial|(refine⟨_,ao hM agk rfl,?_⟩;cbv)|apply And.intro);all_goals exact bn
       cbv;refine ag h fun k67 amp h=>?_
       (first|refine⟨_,⟨rfl,rfl,aK hI amp⟩,?_⟩|refine⟨_,aK hI amp,?_⟩)
       cbv;refine ag h fun x68 agi h=>⟨_,_,rfl,bA hM agi,rfl,?_⟩;cbv;refine ag h fun k69 aap h=>⟨_,gG hI hM aap,?_⟩;cbv;refine ag h fun x70 UN h=>?_;refine ag h fun Nb asa h=>?_;refine ag h fun l72 amk h=>?_;apply Exists.intro;refine⟨?_,_,rfl,?_⟩
       ·cbv;(repeat' first|exact .inl rfl|exact trivial|(refine⟨_,_,_,⟨rfl,bA (enc:=(ay M r)) hM UN,rfl,rfl⟩,?_⟩;cbv)|(refine⟨_,cC (enc:=(az M r)) (x:=(⟨Aa.head,Aa.aN,H8,x66⟩:ah)) hM (ak _) rfl,?_⟩;cbv)|(refine⟨_,ax (enc:=(az M r)) hI hM asa (fun _=>rfl) rfl (fun _=>rfl),?_⟩;cbv)|((first|refine⟨_,su (enc:=(ay M r)) hI hM UN amk (show 2<3 from by decide) rfl,?_⟩|refine⟨rfl,rfl,rfl,_,su (enc:=(ay M r)) hI hM UN amk (show 2<3 from by decide) rfl,?_⟩);cbv)|apply And.intro);all_goals exact bn
       cbv;(try(refine⟨rfl,?_⟩;cbv));refine lW hI ?_;cbv;exact bY (ni _ _ h)
     cbv;exact bY (jO _ _ h)
   cbv;(try(refine⟨rfl,?_⟩;cbv));refine letE h fun YK Vb h=>⟨_,Vb,?_⟩;cbv;refine lp h (fun(O2,TL)=>[(24,(vi TL))]) (fun(O2,TL)=>[(7,.box [(.gs r (.c 7 0) (M.map (ay M r) O2))])]) fun Rm6 m6 rG st h=>?_;obtain⟨O2,TL⟩:=st;dsimp only[gW]at h;cbv;refine si h (fun h=>?_) fun h=>(by cbv;cases h;exact fin);cbv;refine ag h fun k80 asm h=>⟨_,gG hI hM asm,?_⟩;cbv;refine ag h fun x81 arz h=>⟨_,_,rfl,bA hM arz,rfl,?_⟩;cbv;refine ag h fun k82 amn h=>?_
   (first|refine⟨_,⟨rfl,rfl,aK hI amn⟩,?_⟩|refine⟨_,aK hI amn,?_⟩)
   cbv;refine ag h fun x83 ary h=>⟨_,_,rfl,bA hM ary,rfl,?_⟩;cbv;refine si h (fun h=>?_) fun h=>?_
   ·cbv;refine⟨_,cC (enc:=(ay M r)) (x:=x81) hM (ak _) rfl,?_⟩;cbv;refine ag h fun En Vs h=>⟨_,ax (enc:=(ay M r)) hI hM Vs (fun _=>rfl) rfl (fun _=>rfl),?_⟩;cbv;exact bY (rG _ _ h)
   cbv;exact bY (rG _ _ h)
 cbv;cases h
end Ab
