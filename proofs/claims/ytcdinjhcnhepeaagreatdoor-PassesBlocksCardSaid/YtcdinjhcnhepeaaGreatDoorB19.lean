/- PassesBlocks holds of all cores and names (no condition): a part of the proof: an abstract interpreter of the code that is proved sound, models of the functions, and laws of these models. -/
import Derived.Test.YtcdinjhcnhepeaaGreatDoorB03
import Derived.Test.YtcdinjhcnhepeaaGreatDoorB04
import Derived.Test.YtcdinjhcnhepeaaGreatDoorB06
import Derived.Test.YtcdinjhcnhepeaaGreatDoorB17
import Derived.Test.YtcdinjhcnhepeaaGreatDoorB05
set_option linter.unusedVariables false
set_option linter.unusedSimpArgs false
set_option linter.unusedSectionVars false
namespace Ab
open Go Go.Proofs.Tryz
set_option maxHeartbeats 100000000
set_option maxRecDepth 100000
variable{I:Pr}(hI:I=al){M:Md}(hM:M= .al){n nx r s p q u rl:Nat}{g:Nat→Option Ob}
 include hI hM
theorem xc{a0:af}{ba:af}{v:af}(h:rX I M n a0 ba=some v):
  cv 70 [(.agg (aZ M p a0)),(.fn (.func 73) [(.aR q (aZ M p ba) 0)])] (.agg (aZ M r v)) g nx:=by
 refine yi func70 c70 r T9 XV [5] 10 ntmps70 [.cell 4 24] hI (bp.cons (o7 r) (bp.cons (MK r) (bp.cons (ML r) (bp.cons (sm r) (bp.cons (abA r) (bp.cons (uW r) (bp.cons (xS r) (sX PP gL)))))))) 8 fun call hc=>?_;cbv;refine letE h fun l1 OF h=>⟨_,⟨rfl,gA (enc:=aq) hI hM OF rfl⟩,?_⟩;cbv;refine letE h fun n2 oC h=>⟨_,an hI hM oC,?_⟩;cbv;refine kD n (fun mK aW=>?_);cbv;refine si h (fun h=>?_) fun h=>?_
 ·as_aux_lemma=>
   cbv;refine ag h fun x3 me h=>⟨_,ao hM me rfl,?_⟩;cbv;refine⟨_,Q9 (by rfl),?_⟩;cbv;refine ag h fun l4 M9 h=>⟨qP hI M9,_,_,zd (enc:=(ay M r)) hI hM M9 (by have e0:=aJ (enc:=(az M r)) hM;simp only[ay,vi,vs,vb,cq,eD,e0]),?_⟩;cbv;refine aW _ (lpD h [50009] (fun(l5,z6)=>[(19,(vi z6)),(20,.any)]) (fun(l5,z6)=>[(50007,.box [(.eW (.s 50031) (M.ln l5))]),(50031,.ow (.sl 3) none (M.map (ay M r) l5))]) fun D0 m2 eM st h=>?_);obtain⟨l5,z6⟩:=st;dsimp only[pY]at h;cbv;refine si h (fun h=>?_) fun h=>?_
   ·cbv;refine ag h fun x7 RW h=>⟨_,ao hM RW rfl,?_⟩;cbv;refine⟨_,Q9 (by rfl),?_⟩;cbv;refine ag h fun l8 RZ h=>?_
    (refine⟨_,_,FF (enc:=(ay M r)) hI hM RZ ?_,?_⟩;next=>have e0:=aJ (enc:=(az M r)) hM;simp only[ay,vi,vs,vb,cq,eD,e0])
    cbv;exact bY (eM _ _ h)
   cbv;intro l;cbv;refine letE h fun yG BQ h=>⟨_,an hI hM BQ,?_⟩;cbv;refine lp h (fun(gJ,zW,fc)=>[(10,(vi fc))]) (fun(gJ,zW,fc)=>[(5,.arr 1 (M.map aq gJ)),(50031,.ow (.sl 3) none (M.map (ay M r) zW))]) fun Nl m3 jO st h=>?_;obtain⟨gJ,zW,fc⟩:=st;dsimp only[pX]at h;cbv;refine si h (fun h=>?_) fun h=>?_
   ·as_aux_lemma=>
     cbv;refine ag h fun vw Fs h=>⟨_,ao hM Fs rfl,?_⟩;cbv;refine letE h fun CW BP h=>⟨_,an hI hM BP,?_⟩;cbv;refine lp h (fun(zu,uL,fM)=>[(18,(vi fM))]) (fun(zu,uL,fM)=>[(5,.arr 1 (M.map aq zu)),(50031,.ow (.sl 3) none (M.map (ay M r) uL))]) fun Tf m4 ni st h=>?_;obtain⟨zu,uL,fM⟩:=st;dsimp only[pW]at h;cbv;refine si h (fun h=>?_) fun h=>?_
     ·as_aux_lemma=>
       cbv;refine ag h fun eR JE h=>⟨_,ao hM JE rfl,?_⟩;cbv;(try(refine⟨⟨rfl,rfl,rfl⟩,?_⟩;cbv));refine letE h fun vE JM h=>⟨_,⟨rfl,gA (enc:=aq) hI hM JM rfl⟩,?_⟩;cbv;refine ag h fun Zg Aq h=>?_
       (first|refine⟨_,⟨aS hI hM Aq,qh (enc:=aq) (l:=[fc,fM]) hI hM rfl⟩,?_⟩|refine⟨_,⟨rfl,aS hI hM Aq,rfl,rfl,qh (enc:=aq) (l:=[fc,fM]) hI hM rfl⟩,?_⟩)
       cbv;(try(refine⟨rfl,?_⟩;cbv));refine ag h fun T5 tf h=>?_
       (first|refine⟨⟨rfl,aS hI hM tf,rfl⟩,?_⟩|refine⟨⟨aS hI hM tf,trivial⟩,?_⟩|refine⟨aS hI hM tf,?_⟩)
       cbv;(try(refine⟨⟨by decide,by decide⟩,?_⟩;cbv));refine ag h fun u24 zc h=>?_
       (first|refine⟨⟨rfl,aS hI hM zc,rfl⟩,?_⟩|refine⟨⟨aS hI hM zc,trivial⟩,?_⟩|refine⟨aS hI hM zc,?_⟩)
       cbv;refine ag h fun u25 Hd h=>?_
       (first|refine⟨⟨rfl,rfl,rfl,aS hI hM Hd,rfl,(by have hq:=dq (enc:=aq) hM (fun _=>rfl) ([fc,fM]);rw[ep.eq_def]at hq;exact hq)⟩,?_⟩|refine⟨⟨aS hI hM Hd,(by have hq:=dq (enc:=aq) hM (fun _=>rfl) ([fc,fM]);rw[ep.eq_def]at hq;exact hq)⟩,?_⟩)
       cbv;apply Exists.intro;refine⟨?_,_,rfl,?_⟩
       ·cbv;(repeat' first|exact .inl rfl|exact trivial|apply And.intro);all_goals exact bn
       cbv;refine letE h fun n26 ag3 h=>⟨_,an hI hM ag3,?_⟩;cbv;refine lp h (fun(nV,ud,rv)=>[(56,(vi rv))]) (fun(nV,ud,rv)=>[(12915008,.box [(vs eR.head),(vi eR.aN),(.gs r (.c 12915008 2) (M.map (bB M r) nV)),(vi 0),(.gs r (.c 12915008 4) (M.map aq ud)),(.fn (.func 73) [(.aR q [(.sl p (M.map (ay M p) ba.ab))] 0)])])]) fun TG m5 oX st h=>?_;obtain⟨nV,ud,rv⟩:=st;dsimp only[pV]at h;cbv;refine si h (fun h=>?_) fun h=>?_
       ·as_aux_lemma=>
         cbv;refine ag h fun fO Oe h=>⟨_,ao hM Oe rfl,?_⟩;cbv;refine kZ h fun WU j32 hj h=>?_;dsimp only at h;refine aY none [(13,.any),(14,.any)] [(12915008,.box [(vs eR.head),(vi eR.aN),(.gs r (.c 12915008 2) (M.map (bB M r) WU)),(vi 0),(.gs r (.c 12915008 4) (M.map aq j32)),(.fn (.func 73) [(.aR q [(.sl p (M.map (ay M p) ba.ab))] 0)])])] g nx ?_ ?_
         ·replace h:=hj;cbv;refine⟨?_,?_⟩
          ·refine⟨?_,trivial⟩;refine ag h fun xW Fm h=>⟨fun _=>rfl,(.sl r (M.map aq xW)),g,nx,fun ρ=>by cbv;exact us hc (lS hI hM Fm),?_⟩;cbv;refine ag h fun y34 N3 h=>⟨_,_,_,us hc (cR hI hM N3),?_⟩;cbv;refine si h (fun h=>?_) fun h=>?_
           ·as_aux_lemma=>
             cbv;refine Q8 h fun Mr SB Hh uR DK hj h=>?_;dsimp only at h;refine aY none [(11,(vb Mr))] [(12916010,.box [(vs SB),(vi Hh),(.sl p (M.map (bB M p) uR)),(vi DK)])] g nx ?_ ?_
             ·replace h:=hj;cbv;refine⟨?_,trivial⟩;refine ag h fun Dw BL h=>⟨_,_,_,us hc (lY hI hM BL),?_⟩;cbv;refine ag h fun YC Od h=>⟨_,ao hM Od rfl,?_⟩;cbv;refine si h (fun h=>?_) fun h=>?_
              ·cbv;refine⟨?_,trivial⟩;cases h;first|exact Or.inl rfl|exact bn
              cbv;refine ag h fun x42 UQ h=>?_;refine ag h fun x43 UP h=>?_;refine ag h fun KO Fp h=>?_;apply Exists.intro;refine⟨?_,_,rfl,?_⟩
              ·cbv;(repeat' first|exact .inl rfl|exact trivial|(refine⟨_,ao hM UQ rfl,?_⟩;cbv)|(refine⟨_,ao hM UP rfl,?_⟩;cbv)|(refine⟨_,ao hM Fp rfl,?_⟩;cbv)|apply And.intro);all_goals exact bn
              cbv;refine letE h fun Tp Fw h=>⟨_,an hI hM Fw,?_⟩;cbv;refine lp h (fun Rk=>[(42,(vi Rk))]) (fun Rk=>[]) fun Rm6 m6 rG Rk h=>?_;dsimp only[lh]at h;cbv;refine si h (fun h=>?_) fun h=>?_
              ·cbv;refine ag h fun Rp Oc h=>⟨_,ao hM Oc rfl,?_⟩;cbv;refine letE h fun Na Fv h=>⟨_,an hI hM Fv,?_⟩;cbv;refine si h (fun h=>?_) fun h=>?_
               ·cbv;refine ag h fun y49 UC h=>?_;apply Exists.intro;refine⟨?_,_,rfl,?_⟩
                ·cbv;(repeat' first|exact .inl rfl|exact trivial|(refine⟨_,_,_,us hc (pP hI hM UC),?_⟩;cbv)|apply And.intro);all_goals exact bn
                cbv;refine⟨?_,trivial⟩;cases h;first|exact Or.inl rfl|exact bn
               cbv;exact bY (rG _ _ h)
              cbv;refine⟨?_,trivial⟩;cases h;first|exact Or.inl rfl|exact bn
             clear hj;cbv;refine ag h fun k57 OG h=>?_;refine ag h fun x58 N9 h=>?_;refine ag h fun x59 RX h=>?_;refine ag h fun k60 VO h=>?_;refine ag h fun x61 agm h=>?_;refine ag h fun x62 agl h=>?_;refine letE h fun OS Fu h=>?_;apply Exists.intro;refine⟨?_,_,rfl,?_⟩
             ·cbv;(repeat' first|exact .inl rfl|exact trivial|((first|refine⟨_,⟨rfl,rfl,aK hI OG⟩,?_⟩|refine⟨_,aK hI OG,?_⟩);cbv)|(refine⟨_,_,rfl,bA hM N9,rfl,?_⟩;cbv)|(refine⟨_,ao hM RX rfl,?_⟩;cbv)|((first|refine⟨_,⟨rfl,rfl,aK hI VO⟩,?_⟩|refine⟨_,aK hI VO,?_⟩);cbv)|(refine⟨_,_,rfl,bA hM agm,rfl,?_⟩;cbv)|(refine⟨_,ao hM agl rfl,?_⟩;cbv)|(refine⟨_,an hI hM Fu,?_⟩;cbv)|apply And.intro);all_goals exact bn
             cbv;refine letE h fun n64 agU h=>⟨_,an hI hM agU,?_⟩;cbv;refine lp h (fun(Tj,Ti)=>[(13,(vi Tj)),(56,(vi Ti))]) (fun _=>[]) fun Rm7 m7 wW st h=>?_;obtain⟨Tj,Ti⟩:=st;dsimp only[lg]at h;cbv;refine si h (fun h=>?_) fun h=>?_
             ·cbv;refine ag h fun x67 agj h=>⟨_,ao hM agj rfl,?_⟩;cbv;refine si h (fun h=>?_) fun h=>?_
              ·cbv;exact bY (wW _ _ h)
              cbv;exact bY (wW _ _ h)
             cbv;refine letE h fun n70 agQ h=>⟨_,an hI hM agQ,?_⟩;cbv;refine⟨_,vT (enc:=aq) (l:=[n70,Tj,(I.wrap .i64 (I.sub (I.wrap .i64 (I.sub OS rv)) 1))]) hM ⟨⟨(ak _),rfl⟩,⟨(ak _),rfl⟩,⟨(ak _),rfl⟩,trivial⟩,?_⟩;cbv;refine ag h fun y71 afX h=>⟨_,fun hp=>us hc (dF hI hM (aD afX hp.1)),?_⟩;cbv;refine si h (fun h=>?_) fun h=>?_
             ·as_aux_lemma=>
               cbv;refine letE h fun n72 Vc h=>⟨_,an hI hM Vc,?_⟩;cbv;refine ag h fun WH Vt h=>⟨_,_,gf (enc:=aq) hI hM Vt (by decide) rfl,?_⟩;cbv;refine letE h fun l74 R3 h=>?_;refine letE h fun n75 agP h=>⟨_,_,ix (enc:=aq) hI hM R3 agP rfl (fun _=>rfl) (fun _=>rfl),?_⟩;cbv;refine⟨_,an hI hM Vc,?_⟩;cbv;refine si h (fun h=>?_) fun h=>?_
               ·cbv;refine ag h fun l76 ahl h=>?_;apply Exists.intro;refine⟨?_,_,rfl,?_⟩
                ·cbv;(repeat' first|exact .inl rfl|exact trivial|(refine⟨_,cC (enc:=(bB M r)) (x:=(⟨fO.kind,fO.name,fO.num,[]⟩:aH)) hM ⟨rfl,rfl,rfl,(aJ hM),trivial⟩ rfl,?_⟩;cbv)|(refine⟨_,ax (enc:=(bB M r)) hI hM ahl (fun _=>rfl) rfl (fun _=>rfl),?_⟩;cbv)|apply And.intro);all_goals exact bn
                cbv;refine letE h fun YK Vb h=>⟨_,an hI hM Vb,?_⟩;cbv;refine⟨?_,trivial⟩;refine⟨_,cC (enc:=aq) (x:=(I.wrap .i64 (I.sub YK 1))) hM (ak _) rfl,?_⟩;cbv;refine⟨?_,trivial⟩;refine ag h fun O2 R0 h=>⟨_,ax (enc:=aq) hI hM R0 (fun _=>rfl) rfl (fun _=>rfl),?_⟩;cbv;refine⟨?_,trivial⟩;cases h;first|exact Or.inl rfl|exact bn
               cbv;refine ag h fun u79 agt h=>?_;refine ag h fun l80 ahj h=>?_;apply Exists.intro;refine⟨?_,_,rfl,?_⟩
               ·cbv;(repeat' first|exact .inl rfl|exact trivial|(refine⟨_,cC (enc:=(bB M r)) (x:=(⟨fO.kind,fO.name,fO.num,l74⟩:aH)) hM ⟨rfl,rfl,rfl,(eF hM agt),trivial⟩ rfl,?_⟩;cbv)|(refine⟨_,ax (enc:=(bB M r)) hI hM ahj (fun _=>rfl) rfl (fun _=>rfl),?_⟩;cbv)|apply And.intro);all_goals exact bn
               cbv;refine letE h fun n81 agN h=>⟨_,an hI hM agN,?_⟩;cbv;refine⟨?_,trivial⟩;refine⟨_,cC (enc:=aq) (x:=(I.wrap .i64 (I.sub n81 1))) hM (ak _) rfl,?_⟩;cbv;refine⟨?_,trivial⟩;refine ag h fun l82 ahi h=>⟨_,ax (enc:=aq) hI hM ahi (fun _=>rfl) rfl (fun _=>rfl),?_⟩;cbv;refine⟨?_,trivial⟩;cases h;first|exact Or.inl rfl|exact bn
             cbv;refine letE h fun YJ JG h=>⟨_,an hI hM JG,?_⟩;cbv;refine lp h (fun(En,GW,Nn)=>[(90,(vi Nn))]) (fun(En,GW,Nn)=>[(12915008,.box [(vs eR.head),(vi eR.aN),(.gs r (.c 12915008 2) (M.map (bB M r) En)),(vi 0),(.gs r (.c 12915008 4) (M.map aq ud)),(.fn (.func 73) [(.aR q [(.sl p (M.map (ay M p) ba.ab))] 0)])]),(12916086,.box [(vs ⟨#[]⟩),(vi 0),(.v gD),(vi 0),(.gs r (.c 12916086 4) (M.map aq GW)),(.v .nilFunc)])]) fun Rm8 m8 Cd st h=>?_;obtain⟨En,GW,Nn⟩:=st;dsimp only[lf]at h;cbv;refine si h (fun h=>?_) fun h=>?_
             ·as_aux_lemma=>
               cbv;refine ag h fun Dx agc h=>⟨_,ao hM agc rfl,?_⟩;cbv;refine si h (fun h=>?_) fun h=>?_
               ·cbv;refine ag h fun x88 agb h=>⟨_,ao hM agb rfl,?_⟩;cbv;refine⟨_,cC (enc:=aq) (x:=x88) hM (ak _) rfl,?_⟩;cbv;refine ag h fun l89 ahf h=>⟨_,ax (enc:=aq) hI hM ahf (fun _=>rfl) rfl (fun _=>rfl),?_⟩;cbv;exact bY (Cd _ _ h)
               cbv;refine si h (fun h=>?_) fun h=>?_
               ·cbv;refine ag h fun x90 aga h=>?_;refine ag h fun x91 af9 h=>?_;refine ag h fun x92 af8 h=>?_;apply Exists.intro;refine⟨?_,_,rfl,?_⟩
                ·cbv;(repeat' first|exact .inl rfl|exact trivial|(refine⟨_,ao hM aga rfl,?_⟩;cbv)|(refine⟨_,ao hM af9 rfl,?_⟩;cbv)|(refine⟨_,ao hM af8 rfl,?_⟩;cbv)|apply And.intro);all_goals exact bn
                cbv;refine⟨_,cC (enc:=aq) (x:=x92) hM (ak _) rfl,?_⟩;cbv;refine ag h fun l93 ahc h=>⟨_,ax (enc:=aq) hI hM ahc (fun _=>rfl) rfl (fun _=>rfl),?_⟩;cbv;exact bY (Cd _ _ h)
               cbv;refine kZ h fun j94 j95 hj h=>?_;dsimp only at h;refine aY none [(19,(vi j94)),(18,.any)] [(12915008,.box [(vs eR.head),(vi eR.aN),(.gs r (.c 12915008 2) (M.map (bB M r) j95)),(vi 0),(.gs r (.c 12915008 4) (M.map aq ud)),(.fn (.func 73) [(.aR q [(.sl p (M.map (ay M p) ba.ab))] 0)])])] g nx ?_ ?_
               ·replace h:=hj;cbv;refine⟨?_,trivial⟩;refine ag h fun y96 afV h=>⟨fun _=>rfl,(.sl r (M.map aq y96)),g,nx,fun ρ=>by cbv;exact us hc (eG hI hM afV),?_⟩;cbv;refine⟨?_,trivial⟩;refine letE h fun n97 Va h=>⟨_,an hI hM Va,?_⟩;cbv;refine ag h fun l98 aha h=>⟨_,_,gf (enc:=aq) hI hM aha (by decide) rfl,?_⟩;cbv;refine letE h fun l99 ag9 h=>?_;refine letE h fun amZ Vr h=>⟨_,_,ix (enc:=aq) hI hM ag9 Vr rfl (fun _=>rfl) (fun _=>rfl),?_⟩;cbv;refine⟨_,an hI hM Va,?_⟩;cbv;refine si h (fun h=>?_) fun h=>?_
                ·cbv;refine ag h fun aa6 VM h=>?_;apply Exists.intro;refine⟨?_,_,rfl,?_⟩
                 ·cbv;(repeat' first|exact .inl rfl|exact trivial|(refine⟨_,cC (enc:=(bB M r)) (x:=(⟨Dx.kind,Dx.name,Dx.num,[]⟩:aH)) hM ⟨rfl,rfl,rfl,(aJ hM),trivial⟩ rfl,?_⟩;cbv)|(refine⟨_,ax (enc:=(bB M r)) hI hM VM (fun _=>rfl) rfl (fun _=>rfl),?_⟩;cbv)|apply And.intro);all_goals exact bn
                 cbv;refine letE h fun ahO Vq h=>⟨_,an hI hM Vq,?_⟩;cbv;cases h;first|exact Or.inl rfl|exact bn
                cbv;refine ag h fun aly U9 h=>?_;refine ag h fun aa5 VL h=>?_;apply Exists.intro;refine⟨?_,_,rfl,?_⟩
                ·cbv;(repeat' first|exact .inl rfl|exact trivial|(refine⟨_,cC (enc:=(bB M r)) (x:=(⟨Dx.kind,Dx.name,Dx.num,l99⟩:aH)) hM ⟨rfl,rfl,rfl,(eF hM U9),trivial⟩ rfl,?_⟩;cbv)|(refine⟨_,ax (enc:=(bB M r)) hI hM VL (fun _=>rfl) rfl (fun _=>rfl),?_⟩;cbv)|apply And.intro);all_goals exact bn
                cbv;refine letE h fun JZ Fy h=>⟨_,an hI hM Fy,?_⟩;cbv;cases h;first|exact Or.inl rfl|exact bn
               clear hj;cbv;refine⟨_,cC (enc:=aq) (x:=j94) hM (ak _) rfl,?_⟩;cbv;refine ag h fun ahX VJ h=>⟨_,ax (enc:=aq) hI hM VJ (fun _=>rfl) rfl (fun _=>rfl),?_⟩;cbv;exact bY (Cd _ _ h)
             cbv;refine ag h fun TT U2 h=>?_;apply Exists.intro;refine⟨?_,_,rfl,?_⟩
             ·cbv;(repeat' first|exact .inl rfl|exact trivial|(refine⟨_,ao hM U2 rfl,?_⟩;cbv)|apply And.intro);all_goals exact bn
             cbv;refine⟨?_,trivial⟩;refine⟨_,cC (enc:=aq) (x:=TT) hM (ak _) rfl,?_⟩;cbv;refine⟨?_,trivial⟩;refine ag h fun Mn FB h=>⟨_,ax (enc:=aq) hI hM FB (fun _=>rfl) rfl (fun _=>rfl),?_⟩;cbv;refine⟨?_,trivial⟩;cases h;first|exact Or.inl rfl|exact bn
           cbv;refine ag h fun ah4 LJ h=>?_;refine ag h fun aeB U1 h=>?_;refine ag h fun aeA U0 h=>?_;refine ag h fun ah3 LI h=>?_;refine ag h fun aez UZ h=>?_;refine ag h fun aey UY h=>?_;refine letE h fun Wo Vl h=>?_;apply Exists.intro;refine⟨?_,_,rfl,?_⟩
           ·cbv;(repeat' first|exact .inl rfl|exact trivial|((first|refine⟨_,⟨rfl,rfl,aK hI LJ⟩,?_⟩|refine⟨_,aK hI LJ,?_⟩);cbv)|(refine⟨_,_,rfl,bA hM U1,rfl,?_⟩;cbv)|(refine⟨_,ao hM U0 rfl,?_⟩;cbv)|((first|refine⟨_,⟨rfl,rfl,aK hI LI⟩,?_⟩|refine⟨_,aK hI LI,?_⟩);cbv)|(refine⟨_,_,rfl,bA hM UZ,rfl,?_⟩;cbv)|(refine⟨_,ao hM UY rfl,?_⟩;cbv)|(refine⟨_,an hI hM Vl,?_⟩;cbv)|apply And.intro);all_goals exact bn
           cbv;refine⟨_,rfl,?_⟩;cbv;refine lp h (fun _=>[]) (fun _=>[]) fun Rm9 m9 Xn st h=>?_;dsimp only[ld]at h;cbv;refine oA (sH hI (by decide)) ?_;cbv;refine letE h fun Wn Vk h=>⟨_,an hI hM Vk,?_⟩;cbv;refine⟨_,vT (enc:=aq) (l:=[Wn,0,(I.wrap .i64 (I.sub (I.wrap .i64 (I.sub Wo rv)) 1))]) hM ⟨⟨(ak _),rfl⟩,⟨(ak _),rfl⟩,⟨(ak _),rfl⟩,trivial⟩,?_⟩;cbv;refine ag h fun aes UJ h=>⟨_,fun hp=>us hc (dF hI hM (aD UJ hp.1)),?_⟩;cbv;refine si h (fun h=>?_) fun h=>?_
           ·as_aux_lemma=>
             cbv;refine letE h fun aaH LF h=>⟨_,an hI hM LF,?_⟩;cbv;refine ag h fun Sz VC h=>⟨_,_,gf (enc:=aq) hI hM VC (by decide) rfl,?_⟩;cbv;refine letE h fun Sy VB h=>?_;refine letE h fun amX Vj h=>⟨_,_,ix (enc:=aq) hI hM VB Vj rfl (fun _=>rfl) (fun _=>rfl),?_⟩;cbv;refine⟨_,an hI hM LF,?_⟩;cbv;refine si h (fun h=>?_) fun h=>?_
             ·cbv;refine ag h fun aa3 VA h=>?_;apply Exists.intro;refine⟨?_,_,rfl,?_⟩
              ·cbv;(repeat' first|exact .inl rfl|exact trivial|(refine⟨_,cC (enc:=(bB M r)) (x:=(⟨fO.kind,fO.name,fO.num,[]⟩:aH)) hM ⟨rfl,rfl,rfl,(aJ hM),trivial⟩ rfl,?_⟩;cbv)|(refine⟨_,ax (enc:=(bB M r)) hI hM VA (fun _=>rfl) rfl (fun _=>rfl),?_⟩;cbv)|apply And.intro);all_goals exact bn
              cbv;refine letE h fun Wm Vi h=>⟨_,an hI hM Vi,?_⟩;cbv;refine⟨?_,trivial⟩;refine⟨_,cC (enc:=aq) (x:=(I.wrap .i64 (I.sub Wm 1))) hM (ak _) rfl,?_⟩;cbv;refine⟨?_,trivial⟩;refine ag h fun Sx HP h=>⟨_,ax (enc:=aq) hI hM HP (fun _=>rfl) rfl (fun _=>rfl),?_⟩;cbv;refine⟨?_,trivial⟩;cases h;first|exact Or.inl rfl|exact bn
             cbv;refine ag h fun alw U7 h=>?_;refine ag h fun Sw Vz h=>?_;apply Exists.intro;refine⟨?_,_,rfl,?_⟩
             ·cbv;(repeat' first|exact .inl rfl|exact trivial|(refine⟨_,cC (enc:=(bB M r)) (x:=(⟨fO.kind,fO.name,fO.num,Sy⟩:aH)) hM ⟨rfl,rfl,rfl,(eF hM U7),trivial⟩ rfl,?_⟩;cbv)|(refine⟨_,ax (enc:=(bB M r)) hI hM Vz (fun _=>rfl) rfl (fun _=>rfl),?_⟩;cbv)|apply And.intro);all_goals exact bn
             cbv;refine letE h fun Wl Vh h=>⟨_,an hI hM Vh,?_⟩;cbv;refine⟨?_,trivial⟩;refine⟨_,cC (enc:=aq) (x:=(I.wrap .i64 (I.sub Wl 1))) hM (ak _) rfl,?_⟩;cbv;refine⟨?_,trivial⟩;refine ag h fun aa2 Vy h=>⟨_,ax (enc:=aq) hI hM Vy (fun _=>rfl) rfl (fun _=>rfl),?_⟩;cbv;refine⟨?_,trivial⟩;cases h;first|exact Or.inl rfl|exact bn
           cbv;refine⟨_,rfl,?_⟩;cbv;refine lp h (fun _=>[]) (fun _=>[]) fun aps m10 Xo st h=>?_;dsimp only[ka]at h;cbv;refine oA (sH hI (by decide)) ?_;cbv;cases h
          refine⟨?_,trivial⟩;refine ag h fun xW Fm h=>⟨fun _=>rfl,(.sl r (M.map aq xW)),g,nx,fun ρ=>by cbv;exact us hc (lS hI hM Fm),?_⟩;cbv;refine ag h fun y34 N3 h=>⟨_,_,_,us hc (cR hI hM N3),?_⟩;cbv;refine si h (fun h=>?_) fun h=>?_
          ·as_aux_lemma=>
            cbv;refine Q8 h fun Mr SB Hh uR DK hj h=>?_;dsimp only at h;refine aY none [(11,(vb Mr))] [(12916010,.box [(vs SB),(vi Hh),(.sl p (M.map (bB M p) uR)),(vi DK)])] g nx ?_ ?_
            ·replace h:=hj;cbv;refine⟨?_,trivial⟩;refine ag h fun Dw BL h=>⟨_,_,_,us hc (lY hI hM BL),?_⟩;cbv;refine ag h fun YC Od h=>⟨_,ao hM Od rfl,?_⟩;cbv;refine si h (fun h=>?_) fun h=>?_
             ·cbv;refine⟨?_,trivial⟩;cases h;first|exact Or.inl rfl|exact bn
             cbv;refine ag h fun x42 UQ h=>?_;refine ag h fun x43 UP h=>?_;refine ag h fun KO Fp h=>?_;apply Exists.intro;refine⟨?_,_,rfl,?_⟩
             ·cbv;(repeat' first|exact .inl rfl|exact trivial|(refine⟨_,ao hM UQ rfl,?_⟩;cbv)|(refine⟨_,ao hM UP rfl,?_⟩;cbv)|(refine⟨_,ao hM Fp rfl,?_⟩;cbv)|apply And.intro);all_goals exact bn
             cbv;refine letE h fun Tp Fw h=>⟨_,an hI hM Fw,?_⟩;cbv;refine lp h (fun Rk=>[(42,(vi Rk))]) (fun Rk=>[]) fun Rm6 m6 rG Rk h=>?_;dsimp only[lh]at h;cbv;refine si h (fun h=>?_) fun h=>?_
             ·cbv;refine ag h fun Rp Oc h=>⟨_,ao hM Oc rfl,?_⟩;cbv;refine letE h fun Na Fv h=>⟨_,an hI hM Fv,?_⟩;cbv;refine si h (fun h=>?_) fun h=>?_
              ·cbv;refine ag h fun y49 UC h=>?_;apply Exists.intro;refine⟨?_,_,rfl,?_⟩
               ·cbv;(repeat' first|exact .inl rfl|exact trivial|(refine⟨_,_,_,us hc (pP hI hM UC),?_⟩;cbv)|apply And.intro);all_goals exact bn
               cbv;refine⟨?_,trivial⟩;cases h;first|exact Or.inl rfl|exact bn
              cbv;exact bY (rG _ _ h)
             cbv;refine⟨?_,trivial⟩;cases h;first|exact Or.inl rfl|exact bn
            clear hj;cbv;refine ag h fun k57 OG h=>?_;refine ag h fun x58 N9 h=>?_;refine ag h fun x59 RX h=>?_;refine ag h fun k60 VO h=>?_;refine ag h fun x61 agm h=>?_;refine ag h fun x62 agl h=>?_;refine letE h fun OS Fu h=>?_;apply Exists.intro;refine⟨?_,_,rfl,?_⟩
            ·cbv;(repeat' first|exact .inl rfl|exact trivial|((first|refine⟨_,⟨rfl,rfl,aK hI OG⟩,?_⟩|refine⟨_,aK hI OG,?_⟩);cbv)|(refine⟨_,_,rfl,bA hM N9,rfl,?_⟩;cbv)|(refine⟨_,ao hM RX rfl,?_⟩;cbv)|((first|refine⟨_,⟨rfl,rfl,aK hI VO⟩,?_⟩|refine⟨_,aK hI VO,?_⟩);cbv)|(refine⟨_,_,rfl,bA hM agm,rfl,?_⟩;cbv)|(refine⟨_,ao hM agl rfl,?_⟩;cbv)|(refine⟨_,an hI hM Fu,?_⟩;cbv)|apply And.intro);all_goals exact bn
            cbv;refine letE h fun n64 agU h=>⟨_,an hI hM agU,?_⟩;cbv;refine lp h (fun(Tj,Ti)=>[(13,(vi Tj)),(56,(vi Ti))]) (fun _=>[]) fun Rm7 m7 wW st h=>?_;obtain⟨Tj,Ti⟩:=st;dsimp only[lg]at h;cbv;refine si h (fun h=>?_) fun h=>?_
            ·cbv;refine ag h fun x67 agj h=>⟨_,ao hM agj rfl,?_⟩;cbv;refine si h (fun h=>?_) fun h=>?_
             ·cbv;exact bY (wW _ _ h)
             cbv;exact bY (wW _ _ h)
            cbv;refine letE h fun n70 agQ h=>⟨_,an hI hM agQ,?_⟩;cbv;refine⟨_,vT (enc:=aq) (l:=[n70,Tj,(I.wrap .i64 (I.sub (I.wrap .i64 (I.sub OS rv)) 1))]) hM ⟨⟨(ak _),rfl⟩,⟨(ak _),rfl⟩,⟨(ak _),rfl⟩,trivial⟩,?_⟩;cbv;refine ag h fun y71 afX h=>⟨_,fun hp=>us hc (dF hI hM (aD afX hp.1)),?_⟩;cbv;refine si h (fun h=>?_) fun h=>?_
            ·as_aux_lemma=>
              cbv;refine letE h fun n72 Vc h=>⟨_,an hI hM Vc,?_⟩;cbv;refine ag h fun WH Vt h=>⟨_,_,gf (enc:=aq) hI hM Vt (by decide) rfl,?_⟩;cbv;refine letE h fun l74 R3 h=>?_;refine letE h fun n75 agP h=>⟨_,_,ix (enc:=aq) hI hM R3 agP rfl (fun _=>rfl) (fun _=>rfl),?_⟩;cbv;refine⟨_,an hI hM Vc,?_⟩;cbv;refine si h (fun h=>?_) fun h=>?_
              ·cbv;refine ag h fun l76 ahl h=>?_;apply Exists.intro;refine⟨?_,_,rfl,?_⟩
               ·cbv;(repeat' first|exact .inl rfl|exact trivial|(refine⟨_,cC (enc:=(bB M r)) (x:=(⟨fO.kind,fO.name,fO.num,[]⟩:aH)) hM ⟨rfl,rfl,rfl,(aJ hM),trivial⟩ rfl,?_⟩;cbv)|(refine⟨_,ax (enc:=(bB M r)) hI hM ahl (fun _=>rfl) rfl (fun _=>rfl),?_⟩;cbv)|apply And.intro);all_goals exact bn
               cbv;refine letE h fun YK Vb h=>⟨_,an hI hM Vb,?_⟩;cbv;refine⟨?_,trivial⟩;refine⟨_,cC (enc:=aq) (x:=(I.wrap .i64 (I.sub YK 1))) hM (ak _) rfl,?_⟩;cbv;refine⟨?_,trivial⟩;refine ag h fun O2 R0 h=>⟨_,ax (enc:=aq) hI hM R0 (fun _=>rfl) rfl (fun _=>rfl),?_⟩;cbv;refine⟨?_,trivial⟩;cases h;first|exact Or.inl rfl|exact bn
              cbv;refine ag h fun u79 agt h=>?_;refine ag h fun l80 ahj h=>?_;apply Exists.intro;refine⟨?_,_,rfl,?_⟩
              ·cbv;(repeat' first|exact .inl rfl|exact trivial|(refine⟨_,cC (enc:=(bB M r)) (x:=(⟨fO.kind,fO.name,fO.num,l74⟩:aH)) hM ⟨rfl,rfl,rfl,(eF hM agt),trivial⟩ rfl,?_⟩;cbv)|(refine⟨_,ax (enc:=(bB M r)) hI hM ahj (fun _=>rfl) rfl (fun _=>rfl),?_⟩;cbv)|apply And.intro);all_goals exact bn
              cbv;refine letE h fun n81 agN h=>⟨_,an hI hM agN,?_⟩;cbv;refine⟨?_,trivial⟩;refine⟨_,cC (enc:=aq) (x:=(I.wrap .i64 (I.sub n81 1))) hM (ak _) rfl,?_⟩;cbv;refine⟨?_,trivial⟩;refine ag h fun l82 ahi h=>⟨_,ax (enc:=aq) hI hM ahi (fun _=>rfl) rfl (fun _=>rfl),?_⟩;cbv;refine⟨?_,trivial⟩;cases h;first|exact Or.inl rfl|exact bn
            cbv;refine letE h fun YJ JG h=>⟨_,an hI hM JG,?_⟩;cbv;refine lp h (fun(En,GW,Nn)=>[(90,(vi Nn))]) (fun(En,GW,Nn)=>[(12915008,.box [(vs eR.head),(vi eR.aN),(.gs r (.c 12915008 2) (M.map (bB M r) En)),(vi 0),(.gs r (.c 12915008 4) (M.map aq ud)),(.fn (.func 73) [(.aR q [(.sl p (M.map (ay M p) ba.ab))] 0)])]),(12916086,.box [(vs ⟨#[]⟩),(vi 0),(.v gD),(vi 0),(.gs r (.c 12916086 4) (M.map aq GW)),(.v .nilFunc)])]) fun Rm8 m8 Cd st h=>?_;obtain⟨En,GW,Nn⟩:=st;dsimp only[lf]at h;cbv;refine si h (fun h=>?_) fun h=>?_
            ·as_aux_lemma=>
              cbv;refine ag h fun Dx agc h=>⟨_,ao hM agc rfl,?_⟩;cbv;refine si h (fun h=>?_) fun h=>?_
              ·cbv;refine ag h fun x88 agb h=>⟨_,ao hM agb rfl,?_⟩;cbv;refine⟨_,cC (enc:=aq) (x:=x88) hM (ak _) rfl,?_⟩;cbv;refine ag h fun l89 ahf h=>⟨_,ax (enc:=aq) hI hM ahf (fun _=>rfl) rfl (fun _=>rfl),?_⟩;cbv;exact bY (Cd _ _ h)
              cbv;refine si h (fun h=>?_) fun h=>?_
              ·cbv;refine ag h fun x90 aga h=>?_;refine ag h fun x91 af9 h=>?_;refine ag h fun x92 af8 h=>?_;apply Exists.intro;refine⟨?_,_,rfl,?_⟩
               ·cbv;(repeat' first|exact .inl rfl|exact trivial|(refine⟨_,ao hM aga rfl,?_⟩;cbv)|(refine⟨_,ao hM af9 rfl,?_⟩;cbv)|(refine⟨_,ao hM af8 rfl,?_⟩;cbv)|apply And.intro);all_goals exact bn
               cbv;refine⟨_,cC (enc:=aq) (x:=x92) hM (ak _) rfl,?_⟩;cbv;refine ag h fun l93 ahc h=>⟨_,ax (enc:=aq) hI hM ahc (fun _=>rfl) rfl (fun _=>rfl),?_⟩;cbv;exact bY (Cd _ _ h)
              cbv;refine kZ h fun j94 j95 hj h=>?_;dsimp only at h;refine aY none [(19,(vi j94)),(18,.any)] [(12915008,.box [(vs eR.head),(vi eR.aN),(.gs r (.c 12915008 2) (M.map (bB M r) j95)),(vi 0),(.gs r (.c 12915008 4) (M.map aq ud)),(.fn (.func 73) [(.aR q [(.sl p (M.map (ay M p) ba.ab))] 0)])])] g nx ?_ ?_
              ·replace h:=hj;cbv;refine⟨?_,trivial⟩;refine ag h fun y96 afV h=>⟨fun _=>rfl,(.sl r (M.map aq y96)),g,nx,fun ρ=>by cbv;exact us hc (eG hI hM afV),?_⟩;cbv;refine⟨?_,trivial⟩;refine letE h fun n97 Va h=>⟨_,an hI hM Va,?_⟩;cbv;refine ag h fun l98 aha h=>⟨_,_,gf (enc:=aq) hI hM aha (by decide) rfl,?_⟩;cbv;refine letE h fun l99 ag9 h=>?_;refine letE h fun amZ Vr h=>⟨_,_,ix (enc:=aq) hI hM ag9 Vr rfl (fun _=>rfl) (fun _=>rfl),?_⟩;cbv;refine⟨_,an hI hM Va,?_⟩;cbv;refine si h (fun h=>?_) fun h=>?_
               ·cbv;refine ag h fun aa6 VM h=>?_;apply Exists.intro;refine⟨?_,_,rfl,?_⟩
                ·cbv;(repeat' first|exact .inl rfl|exact trivial|(refine⟨_,cC (enc:=(bB M r)) (x:=(⟨Dx.kind,Dx.name,Dx.num,[]⟩:aH)) hM ⟨rfl,rfl,rfl,(aJ hM),trivial⟩ rfl,?_⟩;cbv)|(refine⟨_,ax (enc:=(bB M r)) hI hM VM (fun _=>rfl) rfl (fun _=>rfl),?_⟩;cbv)|apply And.intro);all_goals exact bn
                cbv;refine letE h fun ahO Vq h=>⟨_,an hI hM Vq,?_⟩;cbv;cases h;first|exact Or.inl rfl|exact bn
               cbv;refine ag h fun aly U9 h=>?_;refine ag h fun aa5 VL h=>?_;apply Exists.intro;refine⟨?_,_,rfl,?_⟩
               ·cbv;(repeat' first|exact .inl rfl|exact trivial|(refine⟨_,cC (enc:=(bB M r)) (x:=(⟨Dx.kind,Dx.name,Dx.num,l99⟩:aH)) hM ⟨rfl,rfl,rfl,(eF hM U9),trivial⟩ rfl,?_⟩;cbv)|(refine⟨_,ax (enc:=(bB M r)) hI hM VL (fun _=>rfl) rfl (fun _=>rfl),?_⟩;cbv)|apply And.intro);all_goals exact bn
               cbv;refine letE h fun JZ Fy h=>⟨_,an hI hM Fy,?_⟩;cbv;cases h;first|exact Or.inl rfl|exact bn
              clear hj;cbv;refine⟨_,cC (enc:=aq) (x:=j94) hM (ak _) rfl,?_⟩;cbv;refine ag h fun ahX VJ h=>⟨_,ax (enc:=aq) hI hM VJ (fun _=>rfl) rfl (fun _=>rfl),?_⟩;cbv;exact bY (Cd _ _ h)
            cbv;refine ag h fun TT U2 h=>?_;apply Exists.intro;refine⟨?_,_,rfl,?_⟩
            ·cbv;(repeat' first|exact .inl rfl|exact trivial|(refine⟨_,ao hM U2 rfl,?_⟩;cbv)|apply And.intro);all_goals exact bn
            cbv;refine⟨?_,trivial⟩;refine⟨_,cC (enc:=aq) (x:=TT) hM (ak _) rfl,?_⟩;cbv;refine⟨?_,trivial⟩;refine ag h fun Mn FB h=>⟨_,ax (enc:=aq) hI hM FB (fun _=>rfl) rfl (fun _=>rfl),?_⟩;cbv;refine⟨?_,trivial⟩;cases h;first|exact Or.inl rfl|exact bn
          cbv;refine ag h fun ah4 LJ h=>?_;refine ag h fun aeB U1 h=>?_;refine ag h fun aeA U0 h=>?_;refine ag h fun ah3 LI h=>?_;refine ag h fun aez UZ h=>?_;refine ag h fun aey UY h=>?_;refine letE h fun Wo Vl h=>?_;apply Exists.intro;refine⟨?_,_,rfl,?_⟩
          ·cbv;(repeat' first|exact .inl rfl|exact trivial|((first|refine⟨_,⟨rfl,rfl,aK hI LJ⟩,?_⟩|refine⟨_,aK hI LJ,?_⟩);cbv)|(refine⟨_,_,rfl,bA hM U1,rfl,?_⟩;cbv)|(refine⟨_,ao hM U0 rfl,?_⟩;cbv)|((first|refine⟨_,⟨rfl,rfl,aK hI LI⟩,?_⟩|refine⟨_,aK hI LI,?_⟩);cbv)|(refine⟨_,_,rfl,bA hM UZ,rfl,?_⟩;cbv)|(refine⟨_,ao hM UY rfl,?_⟩;cbv)|(refine⟨_,an hI hM Vl,?_⟩;cbv)|apply And.intro);all_goals exact bn
          cbv;refine⟨_,rfl,?_⟩;cbv;refine lp h (fun _=>[]) (fun _=>[]) fun Rm9 m9 Xn st h=>?_;dsimp only[ld]at h;cbv;refine oA (sH hI (by decide)) ?_;cbv;refine letE h fun Wn Vk h=>⟨_,an hI hM Vk,?_⟩;cbv;refine⟨_,vT (enc:=aq) (l:=[Wn,0,(I.wrap .i64 (I.sub (I.wrap .i64 (I.sub Wo rv)) 1))]) hM ⟨⟨(ak _),rfl⟩,⟨(ak _),rfl⟩,⟨(ak _),rfl⟩,trivial⟩,?_⟩;cbv;refine ag h fun aes UJ h=>⟨_,fun hp=>us hc (dF hI hM (aD UJ hp.1)),?_⟩;cbv;refine si h (fun h=>?_) fun h=>?_
          ·as_aux_lemma=>
            cbv;refine letE h fun aaH LF h=>⟨_,an hI hM LF,?_⟩;cbv;refine ag h fun Sz VC h=>⟨_,_,gf (enc:=aq) hI hM VC (by decide) rfl,?_⟩;cbv;refine letE h fun Sy VB h=>?_;refine letE h fun amX Vj h=>⟨_,_,ix (enc:=aq) hI hM VB Vj rfl (fun _=>rfl) (fun _=>rfl),?_⟩;cbv;refine⟨_,an hI hM LF,?_⟩;cbv;refine si h (fun h=>?_) fun h=>?_
            ·cbv;refine ag h fun aa3 VA h=>?_;apply Exists.intro;refine⟨?_,_,rfl,?_⟩
             ·cbv;(repeat' first|exact .inl rfl|exact trivial|(refine⟨_,cC (enc:=(bB M r)) (x:=(⟨fO.kind,fO.name,fO.num,[]⟩:aH)) hM ⟨rfl,rfl,rfl,(aJ hM),trivial⟩ rfl,?_⟩;cbv)|(refine⟨_,ax (enc:=(bB M r)) hI hM VA (fun _=>rfl) rfl (fun _=>rfl),?_⟩;cbv)|apply And.intro);all_goals exact bn
             cbv;refine letE h fun Wm Vi h=>⟨_,an hI hM Vi,?_⟩;cbv;refine⟨?_,trivial⟩;refine⟨_,cC (enc:=aq) (x:=(I.wrap .i64 (I.sub Wm 1))) hM (ak _) rfl,?_⟩;cbv;refine⟨?_,trivial⟩;refine ag h fun Sx HP h=>⟨_,ax (enc:=aq) hI hM HP (fun _=>rfl) rfl (fun _=>rfl),?_⟩;cbv;refine⟨?_,trivial⟩;cases h;first|exact Or.inl rfl|exact bn
            cbv;refine ag h fun alw U7 h=>?_;refine ag h fun Sw Vz h=>?_;apply Exists.intro;refine⟨?_,_,rfl,?_⟩
            ·cbv;(repeat' first|exact .inl rfl|exact trivial|(refine⟨_,cC (enc:=(bB M r)) (x:=(⟨fO.kind,fO.name,fO.num,Sy⟩:aH)) hM ⟨rfl,rfl,rfl,(eF hM U7),trivial⟩ rfl,?_⟩;cbv)|(refine⟨_,ax (enc:=(bB M r)) hI hM Vz (fun _=>rfl) rfl (fun _=>rfl),?_⟩;cbv)|apply And.intro);all_goals exact bn
            cbv;refine letE h fun Wl Vh h=>⟨_,an hI hM Vh,?_⟩;cbv;refine⟨?_,trivial⟩;refine⟨_,cC (enc:=aq) (x:=(I.wrap .i64 (I.sub Wl 1))) hM (ak _) rfl,?_⟩;cbv;refine⟨?_,trivial⟩;refine ag h fun aa2 Vy h=>⟨_,ax (enc:=aq) hI hM Vy (fun _=>rfl) rfl (fun _=>rfl),?_⟩;cbv;refine⟨?_,trivial⟩;cases h;first|exact Or.inl rfl|exact bn
          cbv;refine⟨_,rfl,?_⟩;cbv;refine lp h (fun _=>[]) (fun _=>[]) fun aps m10 Xo st h=>?_;dsimp only[ka]at h;cbv;refine oA (sH hI (by decide)) ?_;cbv;cases h
         clear hj;cbv;exact bY (oX _ _ h)
       cbv;refine ag h fun aew ama h=>?_;apply Exists.intro;refine⟨?_,_,rfl,?_⟩
       ·cbv;(repeat' first|exact .inl rfl|exact trivial|(refine⟨_,ao hM ama rfl,?_⟩;cbv)|apply And.intro);all_goals exact bn
       cbv;refine ag h fun anj adr h=>?_
       (first|refine⟨_,⟨rfl,rfl,aK hI adr⟩,?_⟩|refine⟨_,aK hI adr,?_⟩)
       cbv;refine ag h fun alp al9 h=>⟨_,_,rfl,bA hM al9,rfl,?_⟩;cbv;refine ag h fun ah1 amx h=>⟨_,gG hI hM amx,?_⟩;cbv;refine ag h fun Zd UW h=>?_;refine ag h fun anc aml h=>?_;refine ag h fun anb adq h=>?_;apply Exists.intro;refine⟨?_,_,rfl,?_⟩
       ·cbv;(repeat' first|exact .inl rfl|exact trivial|(refine⟨_,_,_,⟨rfl,bA (enc:=(ay M r)) hM UW,rfl,rfl⟩,?_⟩;cbv)|(refine⟨_,cC (enc:=(az M r)) (x:=(⟨eR.head,eR.aN,nV,aew⟩:ah)) hM (ak _) rfl,?_⟩;cbv)|(refine⟨_,ax (enc:=(az M r)) hI hM aml (fun _=>rfl) rfl (fun _=>rfl),?_⟩;cbv)|((first|refine⟨_,su (enc:=(ay M r)) hI hM UW adq (show 2<3 from by decide) rfl,?_⟩|refine⟨rfl,rfl,rfl,_,su (enc:=(ay M r)) hI hM UW adq (show 2<3 from by decide) rfl,?_⟩);cbv)|apply And.intro);all_goals exact bn
       cbv;(try(refine⟨rfl,?_⟩;cbv));refine lW hI ?_;cbv;exact bY (ni _ _ h)
     cbv;exact bY (jO _ _ h)
   cbv;(try(refine⟨rfl,?_⟩;cbv));refine ag h fun arc amf h=>?_;obtain rfl:=oJ h;cbv;(all_goals(repeat' apply And.intro));all_goals first|trivial|rfl|exact(aJ hM)|exact(eF hM amf)
 cbv;cases h
end Ab
