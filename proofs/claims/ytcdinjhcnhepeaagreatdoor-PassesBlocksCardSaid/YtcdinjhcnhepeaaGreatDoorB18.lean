/- PassesBlocks holds of all cores and names (no condition): a part of the proof: an abstract interpreter of the code that is proved sound, models of the functions, and laws of these models. -/
import Derived.Test.YtcdinjhcnhepeaaGreatDoorB03
import Derived.Test.YtcdinjhcnhepeaaGreatDoorB04
import Derived.Test.YtcdinjhcnhepeaaGreatDoorB06
import Derived.Test.YtcdinjhcnhepeaaGreatDoorB17
import Derived.Test.YtcdinjhcnhepeaaGreatDoorB05
set_option linter.unusedVariables false
set_option linter.unusedSimpArgs false
set_option linter.unusedSectionVars false
namespace Ab
open Go Go.Proofs.Tryz
set_option maxHeartbeats 100000000
set_option maxRecDepth 100000
variable{I:Pr}(hI:I=al){M:Md}(hM:M= .al){n nx r s p q u rl:Nat}{g:Nat→Option Ob}
 include hI hM
theorem xd{a0:af}{ba:af}{v:af}(h:rY I M n a0 ba=some v):
  cv 70 [(.agg (aZ M p a0)),(.fn (.func 71) [(.aR q (aZ M p ba) 0)])] (.agg (aZ M r v)) g nx:=by
 refine yi func70 c70 r T9 XV [5] 10 ntmps70 [.cell 4 24] hI (bp.cons (o7 r) (bp.cons (MK r) (bp.cons (ML r) (bp.cons (sm r) (bp.cons (abB r) (bp.cons (uW r) (bp.cons (xS r) (sX PP gL)))))))) 8 fun call hc=>?_;cbv;refine letE h fun l1 OF h=>⟨_,⟨rfl,gA (enc:=aq) hI hM OF rfl⟩,?_⟩;cbv;refine letE h fun n2 oC h=>⟨_,an hI hM oC,?_⟩;cbv;refine kD n (fun mK aW=>?_);cbv;refine si h (fun h=>?_) fun h=>?_
 ·as_aux_lemma=>
   cbv;refine ag h fun x3 me h=>⟨_,ao hM me rfl,?_⟩;cbv;refine⟨_,Q9 (by rfl),?_⟩;cbv;refine ag h fun l4 M9 h=>⟨qP hI M9,_,_,zd (enc:=(ay M r)) hI hM M9 (by have e0:=aJ (enc:=(az M r)) hM;simp only[ay,vi,vs,vb,cq,eD,e0]),?_⟩;cbv;refine aW _ (lpD h [50009] (fun(l5,z6)=>[(19,(vi z6)),(20,.any)]) (fun(l5,z6)=>[(50007,.box [(.eW (.s 50031) (M.ln l5))]),(50031,.ow (.sl 3) none (M.map (ay M r) l5))]) fun D0 m2 eM st h=>?_);obtain⟨l5,z6⟩:=st;dsimp only[p5]at h;cbv;refine si h (fun h=>?_) fun h=>?_
   ·cbv;refine ag h fun x7 RW h=>⟨_,ao hM RW rfl,?_⟩;cbv;refine⟨_,Q9 (by rfl),?_⟩;cbv;refine ag h fun l8 RZ h=>?_
    (refine⟨_,_,FF (enc:=(ay M r)) hI hM RZ ?_,?_⟩;next=>have e0:=aJ (enc:=(az M r)) hM;simp only[ay,vi,vs,vb,cq,eD,e0])
    cbv;exact bY (eM _ _ h)
   cbv;intro l;cbv;refine letE h fun yG BQ h=>⟨_,an hI hM BQ,?_⟩;cbv;refine lp h (fun(gJ,zW,fc)=>[(10,(vi fc))]) (fun(gJ,zW,fc)=>[(5,.arr 1 (M.map aq gJ)),(50031,.ow (.sl 3) none (M.map (ay M r) zW))]) fun Nl m3 jO st h=>?_;obtain⟨gJ,zW,fc⟩:=st;dsimp only[p4]at h;cbv;refine si h (fun h=>?_) fun h=>?_
   ·as_aux_lemma=>
     cbv;refine ag h fun vw Fs h=>⟨_,ao hM Fs rfl,?_⟩;cbv;refine letE h fun CW BP h=>⟨_,an hI hM BP,?_⟩;cbv;refine lp h (fun(zu,uL,fM)=>[(18,(vi fM))]) (fun(zu,uL,fM)=>[(5,.arr 1 (M.map aq zu)),(50031,.ow (.sl 3) none (M.map (ay M r) uL))]) fun Tf m4 ni st h=>?_;obtain⟨zu,uL,fM⟩:=st;dsimp only[p3]at h;cbv;refine si h (fun h=>?_) fun h=>?_
     ·as_aux_lemma=>
       cbv;refine ag h fun eR JE h=>⟨_,ao hM JE rfl,?_⟩;cbv;(try(refine⟨⟨rfl,rfl,rfl⟩,?_⟩;cbv));refine letE h fun vE JM h=>⟨_,⟨rfl,gA (enc:=aq) hI hM JM rfl⟩,?_⟩;cbv;refine ag h fun Zg Aq h=>?_
       (first|refine⟨_,⟨aS hI hM Aq,qh (enc:=aq) (l:=[fc,fM]) hI hM rfl⟩,?_⟩|refine⟨_,⟨rfl,aS hI hM Aq,rfl,rfl,qh (enc:=aq) (l:=[fc,fM]) hI hM rfl⟩,?_⟩)
       cbv;(try(refine⟨rfl,?_⟩;cbv));refine ag h fun T5 tf h=>?_
       (first|refine⟨⟨rfl,aS hI hM tf,rfl⟩,?_⟩|refine⟨⟨aS hI hM tf,trivial⟩,?_⟩|refine⟨aS hI hM tf,?_⟩)
       cbv;(try(refine⟨⟨by decide,by decide⟩,?_⟩;cbv));refine ag h fun u24 zc h=>?_
       (first|refine⟨⟨rfl,aS hI hM zc,rfl⟩,?_⟩|refine⟨⟨aS hI hM zc,trivial⟩,?_⟩|refine⟨aS hI hM zc,?_⟩)
       cbv;refine ag h fun u25 Hd h=>?_
       (first|refine⟨⟨rfl,rfl,rfl,aS hI hM Hd,rfl,(by have hq:=dq (enc:=aq) hM (fun _=>rfl) ([fc,fM]);rw[ep.eq_def]at hq;exact hq)⟩,?_⟩|refine⟨⟨aS hI hM Hd,(by have hq:=dq (enc:=aq) hM (fun _=>rfl) ([fc,fM]);rw[ep.eq_def]at hq;exact hq)⟩,?_⟩)
       cbv;apply Exists.intro;refine⟨?_,_,rfl,?_⟩
       ·cbv;(repeat' first|exact .inl rfl|exact trivial|apply And.intro);all_goals exact bn
       cbv;refine letE h fun n26 ag3 h=>⟨_,an hI hM ag3,?_⟩;cbv;refine lp h (fun(nV,ud,rv)=>[(56,(vi rv))]) (fun(nV,ud,rv)=>[(12915008,.box [(vs eR.head),(vi eR.aN),(.gs r (.c 12915008 2) (M.map (bB M r) nV)),(vi 0),(.gs r (.c 12915008 4) (M.map aq ud)),(.fn (.func 71) [(.aR q [(.sl p (M.map (ay M p) ba.ab))] 0)])])]) fun TG m5 oX st h=>?_;obtain⟨nV,ud,rv⟩:=st;dsimp only[pZ]at h;cbv;refine si h (fun h=>?_) fun h=>?_
       ·as_aux_lemma=>
         cbv;refine ag h fun fO Oe h=>⟨_,ao hM Oe rfl,?_⟩;cbv;refine kZ h fun WU j32 hj h=>?_;dsimp only at h;refine aY none [(13,.any),(14,.any)] [(12915008,.box [(vs eR.head),(vi eR.aN),(.gs r (.c 12915008 2) (M.map (bB M r) WU)),(vi 0),(.gs r (.c 12915008 4) (M.map aq j32)),(.fn (.func 71) [(.aR q [(.sl p (M.map (ay M p) ba.ab))] 0)])])] g nx ?_ ?_
         ·replace h:=hj;cbv;refine⟨?_,?_⟩
          ·refine⟨?_,trivial⟩;refine ag h fun xW Fm h=>⟨fun _=>rfl,(.sl r (M.map aq xW)),g,nx,fun ρ=>by cbv;exact us hc (mG hI hM Fm),?_⟩;cbv;refine ag h fun y34 N3 h=>⟨_,_,_,us hc (cR hI hM N3),?_⟩;cbv;refine si h (fun h=>?_) fun h=>?_
           ·as_aux_lemma=>
             cbv;refine Q8 h fun Mr SB Hh uR DK hj h=>?_;dsimp only at h;refine aY none [(11,(vb Mr))] [(12916010,.box [(vs SB),(vi Hh),(.sl p (M.map (bB M p) uR)),(vi DK)])] g nx ?_ ?_
             ·replace h:=hj;cbv;refine⟨?_,trivial⟩;refine ag h fun Dw BL h=>⟨_,_,_,us hc (lY hI hM BL),?_⟩;cbv;refine ag h fun YC Od h=>?_;refine ag h fun y42 UD h=>?_;apply Exists.intro;refine⟨?_,_,rfl,?_⟩
              ·cbv;(repeat' first|exact .inl rfl|exact trivial|(refine⟨_,ao hM Od rfl,?_⟩;cbv)|(refine⟨_,_,_,us hc (pv hI hM UD),?_⟩;cbv)|apply And.intro);all_goals exact bn
              cbv;refine⟨?_,trivial⟩;cases h;first|exact Or.inl rfl|exact bn
             clear hj;cbv;refine ag h fun k43 VQ h=>?_;refine ag h fun KO Fp h=>?_;refine ag h fun x45 UO h=>?_;refine ag h fun k46 VP h=>?_;refine ag h fun Rp Oc h=>?_;refine ag h fun x48 Oa h=>?_;refine letE h fun Wk Oq h=>?_;apply Exists.intro;refine⟨?_,_,rfl,?_⟩
             ·cbv;(repeat' first|exact .inl rfl|exact trivial|((first|refine⟨_,⟨rfl,rfl,aK hI VQ⟩,?_⟩|refine⟨_,aK hI VQ,?_⟩);cbv)|(refine⟨_,_,rfl,bA hM Fp,rfl,?_⟩;cbv)|(refine⟨_,ao hM UO rfl,?_⟩;cbv)|((first|refine⟨_,⟨rfl,rfl,aK hI VP⟩,?_⟩|refine⟨_,aK hI VP,?_⟩);cbv)|(refine⟨_,_,rfl,bA hM Oc,rfl,?_⟩;cbv)|(refine⟨_,ao hM Oa rfl,?_⟩;cbv)|(refine⟨_,an hI hM Oq,?_⟩;cbv)|apply And.intro);all_goals exact bn
             cbv;refine letE h fun n50 Oo h=>⟨_,an hI hM Oo,?_⟩;cbv;refine lp h (fun(Rj,Tk)=>[(13,(vi Rj)),(56,(vi Tk))]) (fun _=>[]) fun Rm6 m6 rG st h=>?_;obtain⟨Rj,Tk⟩:=st;dsimp only[lq]at h;cbv;refine si h (fun h=>?_) fun h=>?_
             ·cbv;refine ag h fun x53 agn h=>⟨_,ao hM agn rfl,?_⟩;cbv;refine si h (fun h=>?_) fun h=>?_
              ·cbv;exact bY (rG _ _ h)
              cbv;exact bY (rG _ _ h)
             cbv;refine letE h fun n56 Om h=>⟨_,an hI hM Om,?_⟩;cbv;refine⟨_,vT (enc:=aq) (l:=[n56,Rj,(I.wrap .i64 (I.sub (I.wrap .i64 (I.sub Wk rv)) 1))]) hM ⟨⟨(ak _),rfl⟩,⟨(ak _),rfl⟩,⟨(ak _),rfl⟩,trivial⟩,?_⟩;cbv;refine ag h fun y57 afY h=>⟨_,fun hp=>us hc (dF hI hM (aD afY hp.1)),?_⟩;cbv;refine si h (fun h=>?_) fun h=>?_
             ·as_aux_lemma=>
               cbv;refine letE h fun Wj BO h=>⟨_,an hI hM BO,?_⟩;cbv;refine ag h fun Qu JK h=>⟨_,_,gf (enc:=aq) hI hM JK (by decide) rfl,?_⟩;cbv;refine letE h fun H5 Hf h=>?_;refine letE h fun n61 Ol h=>⟨_,_,ix (enc:=aq) hI hM Hf Ol rfl (fun _=>rfl) (fun _=>rfl),?_⟩;cbv;refine⟨_,an hI hM BO,?_⟩;cbv;refine si h (fun h=>?_) fun h=>?_
               ·cbv;refine ag h fun O4 Fz h=>?_;apply Exists.intro;refine⟨?_,_,rfl,?_⟩
                ·cbv;(repeat' first|exact .inl rfl|exact trivial|(refine⟨_,cC (enc:=(bB M r)) (x:=(⟨fO.kind,fO.name,fO.num,[]⟩:aH)) hM ⟨rfl,rfl,rfl,(aJ hM),trivial⟩ rfl,?_⟩;cbv)|(refine⟨_,ax (enc:=(bB M r)) hI hM Fz (fun _=>rfl) rfl (fun _=>rfl),?_⟩;cbv)|apply And.intro);all_goals exact bn
                cbv;refine letE h fun OS Fu h=>⟨_,an hI hM Fu,?_⟩;cbv;refine⟨?_,trivial⟩;refine⟨_,cC (enc:=aq) (x:=(I.wrap .i64 (I.sub OS 1))) hM (ak _) rfl,?_⟩;cbv;refine⟨?_,trivial⟩;refine ag h fun Sp JJ h=>⟨_,ax (enc:=aq) hI hM JJ (fun _=>rfl) rfl (fun _=>rfl),?_⟩;cbv;refine⟨?_,trivial⟩;cases h;first|exact Or.inl rfl|exact bn
               cbv;refine ag h fun u65 agu h=>?_;refine ag h fun YN Ow h=>?_;apply Exists.intro;refine⟨?_,_,rfl,?_⟩
               ·cbv;(repeat' first|exact .inl rfl|exact trivial|(refine⟨_,cC (enc:=(bB M r)) (x:=(⟨fO.kind,fO.name,fO.num,H5⟩:aH)) hM ⟨rfl,rfl,rfl,(eF hM agu),trivial⟩ rfl,?_⟩;cbv)|(refine⟨_,ax (enc:=(bB M r)) hI hM Ow (fun _=>rfl) rfl (fun _=>rfl),?_⟩;cbv)|apply And.intro);all_goals exact bn
               cbv;refine letE h fun n67 agT h=>⟨_,an hI hM agT,?_⟩;cbv;refine⟨?_,trivial⟩;refine⟨_,cC (enc:=aq) (x:=(I.wrap .i64 (I.sub n67 1))) hM (ak _) rfl,?_⟩;cbv;refine⟨?_,trivial⟩;refine ag h fun YM Vu h=>⟨_,ax (enc:=aq) hI hM Vu (fun _=>rfl) rfl (fun _=>rfl),?_⟩;cbv;refine⟨?_,trivial⟩;cases h;first|exact Or.inl rfl|exact bn
             cbv;refine letE h fun n69 agS h=>⟨_,an hI hM agS,?_⟩;cbv;refine lp h (fun(O3,Nb,PU)=>[(90,(vi PU))]) (fun(O3,Nb,PU)=>[(12915008,.box [(vs eR.head),(vi eR.aN),(.gs r (.c 12915008 2) (M.map (bB M r) O3)),(vi 0),(.gs r (.c 12915008 4) (M.map aq ud)),(.fn (.func 71) [(.aR q [(.sl p (M.map (ay M p) ba.ab))] 0)])]),(12916086,.box [(vs ⟨#[]⟩),(vi 0),(.v gD),(vi 0),(.gs r (.c 12916086 4) (M.map aq Nb)),(.v .nilFunc)])]) fun Rm7 m7 wW st h=>?_;obtain⟨O3,Nb,PU⟩:=st;dsimp only[ll]at h;cbv;refine si h (fun h=>?_) fun h=>?_
             ·as_aux_lemma=>
               cbv;refine ag h fun Dy agh h=>⟨_,ao hM agh rfl,?_⟩;cbv;refine si h (fun h=>?_) fun h=>?_
               ·cbv;refine ag h fun x74 UL h=>⟨_,ao hM UL rfl,?_⟩;cbv;refine⟨_,cC (enc:=aq) (x:=x74) hM (ak _) rfl,?_⟩;cbv;refine ag h fun l75 ahm h=>⟨_,ax (enc:=aq) hI hM ahm (fun _=>rfl) rfl (fun _=>rfl),?_⟩;cbv;exact bY (wW _ _ h)
               cbv;refine si h (fun h=>?_) fun h=>?_
               ·cbv;refine ag h fun x76 N8 h=>?_;refine ag h fun x77 agf h=>?_;refine ag h fun x78 age h=>?_;apply Exists.intro;refine⟨?_,_,rfl,?_⟩
                ·cbv;(repeat' first|exact .inl rfl|exact trivial|(refine⟨_,ao hM N8 rfl,?_⟩;cbv)|(refine⟨_,ao hM agf rfl,?_⟩;cbv)|(refine⟨_,ao hM age rfl,?_⟩;cbv)|apply And.intro);all_goals exact bn
                cbv;refine⟨_,cC (enc:=aq) (x:=x78) hM (ak _) rfl,?_⟩;cbv;refine ag h fun l79 ahk h=>⟨_,ax (enc:=aq) hI hM ahk (fun _=>rfl) rfl (fun _=>rfl),?_⟩;cbv;exact bY (wW _ _ h)
               cbv;refine kZ h fun j80 j81 hj h=>?_;dsimp only at h;refine aY none [(19,(vi j80)),(18,.any)] [(12915008,.box [(vs eR.head),(vi eR.aN),(.gs r (.c 12915008 2) (M.map (bB M r) j81)),(vi 0),(.gs r (.c 12915008 4) (M.map aq ud)),(.fn (.func 71) [(.aR q [(.sl p (M.map (ay M p) ba.ab))] 0)])])] g nx ?_ ?_
               ·replace h:=hj;cbv;refine⟨?_,trivial⟩;refine ag h fun y82 afW h=>⟨fun _=>rfl,(.sl r (M.map aq y82)),g,nx,fun ρ=>by cbv;exact us hc (eG hI hM afW),?_⟩;cbv;refine⟨?_,trivial⟩;refine letE h fun YJ JG h=>⟨_,an hI hM JG,?_⟩;cbv;refine ag h fun En Vs h=>⟨_,_,gf (enc:=aq) hI hM Vs (by decide) rfl,?_⟩;cbv;refine letE h fun GW ahh h=>?_;refine letE h fun n86 agM h=>⟨_,_,ix (enc:=aq) hI hM ahh agM rfl (fun _=>rfl) (fun _=>rfl),?_⟩;cbv;refine⟨_,an hI hM JG,?_⟩;cbv;refine si h (fun h=>?_) fun h=>?_
                ·cbv;refine ag h fun l87 ahg h=>?_;apply Exists.intro;refine⟨?_,_,rfl,?_⟩
                 ·cbv;(repeat' first|exact .inl rfl|exact trivial|(refine⟨_,cC (enc:=(bB M r)) (x:=(⟨Dy.kind,Dy.name,Dy.num,[]⟩:aH)) hM ⟨rfl,rfl,rfl,(aJ hM),trivial⟩ rfl,?_⟩;cbv)|(refine⟨_,ax (enc:=(bB M r)) hI hM ahg (fun _=>rfl) rfl (fun _=>rfl),?_⟩;cbv)|apply And.intro);all_goals exact bn
                 cbv;refine letE h fun n88 agL h=>⟨_,an hI hM agL,?_⟩;cbv;cases h;first|exact Or.inl rfl|exact bn
                cbv;refine ag h fun u89 ags h=>?_;refine ag h fun l90 ahe h=>?_;apply Exists.intro;refine⟨?_,_,rfl,?_⟩
                ·cbv;(repeat' first|exact .inl rfl|exact trivial|(refine⟨_,cC (enc:=(bB M r)) (x:=(⟨Dy.kind,Dy.name,Dy.num,GW⟩:aH)) hM ⟨rfl,rfl,rfl,(eF hM ags),trivial⟩ rfl,?_⟩;cbv)|(refine⟨_,ax (enc:=(bB M r)) hI hM ahe (fun _=>rfl) rfl (fun _=>rfl),?_⟩;cbv)|apply And.intro);all_goals exact bn
                cbv;refine letE h fun n91 agK h=>⟨_,an hI hM agK,?_⟩;cbv;cases h;first|exact Or.inl rfl|exact bn
               clear hj;cbv;refine⟨_,cC (enc:=aq) (x:=j80) hM (ak _) rfl,?_⟩;cbv;refine ag h fun l92 ahd h=>⟨_,ax (enc:=aq) hI hM ahd (fun _=>rfl) rfl (fun _=>rfl),?_⟩;cbv;exact bY (wW _ _ h)
             cbv;refine ag h fun x96 af7 h=>?_;apply Exists.intro;refine⟨?_,_,rfl,?_⟩
             ·cbv;(repeat' first|exact .inl rfl|exact trivial|(refine⟨_,ao hM af7 rfl,?_⟩;cbv)|apply And.intro);all_goals exact bn
             cbv;refine⟨?_,trivial⟩;refine⟨_,cC (enc:=aq) (x:=x96) hM (ak _) rfl,?_⟩;cbv;refine⟨?_,trivial⟩;refine ag h fun l97 ahb h=>⟨_,ax (enc:=aq) hI hM ahb (fun _=>rfl) rfl (fun _=>rfl),?_⟩;cbv;refine⟨?_,trivial⟩;cases h;first|exact Or.inl rfl|exact bn
           cbv;refine ag h fun k98 VN h=>?_;refine ag h fun x99 af6 h=>?_;refine ag h fun aeE U5 h=>?_;refine ag h fun ah6 LK h=>?_;refine ag h fun aeD U4 h=>?_;refine ag h fun aeC U3 h=>?_;refine letE h fun Wr Vp h=>?_;apply Exists.intro;refine⟨?_,_,rfl,?_⟩
           ·cbv;(repeat' first|exact .inl rfl|exact trivial|((first|refine⟨_,⟨rfl,rfl,aK hI VN⟩,?_⟩|refine⟨_,aK hI VN,?_⟩);cbv)|(refine⟨_,_,rfl,bA hM af6,rfl,?_⟩;cbv)|(refine⟨_,ao hM U5 rfl,?_⟩;cbv)|((first|refine⟨_,⟨rfl,rfl,aK hI LK⟩,?_⟩|refine⟨_,aK hI LK,?_⟩);cbv)|(refine⟨_,_,rfl,bA hM U4,rfl,?_⟩;cbv)|(refine⟨_,ao hM U3 rfl,?_⟩;cbv)|(refine⟨_,an hI hM Vp,?_⟩;cbv)|apply And.intro);all_goals exact bn
           cbv;refine⟨_,rfl,?_⟩;cbv;refine lp h (fun _=>[]) (fun _=>[]) fun Rm8 m8 Cd st h=>?_;dsimp only[lk]at h;cbv;refine oA (sH hI (by decide)) ?_;cbv;refine letE h fun JZ Fy h=>⟨_,an hI hM Fy,?_⟩;cbv;refine⟨_,vT (enc:=aq) (l:=[JZ,0,(I.wrap .i64 (I.sub (I.wrap .i64 (I.sub Wr rv)) 1))]) hM ⟨⟨(ak _),rfl⟩,⟨(ak _),rfl⟩,⟨(ak _),rfl⟩,trivial⟩,?_⟩;cbv;refine ag h fun aet UK h=>⟨_,fun hp=>us hc (dF hI hM (aD UK hp.1)),?_⟩;cbv;refine si h (fun h=>?_) fun h=>?_
           ·as_aux_lemma=>
             cbv;refine letE h fun aaI LG h=>⟨_,an hI hM LG,?_⟩;cbv;refine ag h fun Mo VI h=>⟨_,_,gf (enc:=aq) hI hM VI (by decide) rfl,?_⟩;cbv;refine letE h fun SA VH h=>?_;refine letE h fun amY Vo h=>⟨_,_,ix (enc:=aq) hI hM VH Vo rfl (fun _=>rfl) (fun _=>rfl),?_⟩;cbv;refine⟨_,an hI hM LG,?_⟩;cbv;refine si h (fun h=>?_) fun h=>?_
             ·cbv;refine ag h fun Mn FB h=>?_;apply Exists.intro;refine⟨?_,_,rfl,?_⟩
              ·cbv;(repeat' first|exact .inl rfl|exact trivial|(refine⟨_,cC (enc:=(bB M r)) (x:=(⟨fO.kind,fO.name,fO.num,[]⟩:aH)) hM ⟨rfl,rfl,rfl,(aJ hM),trivial⟩ rfl,?_⟩;cbv)|(refine⟨_,ax (enc:=(bB M r)) hI hM FB (fun _=>rfl) rfl (fun _=>rfl),?_⟩;cbv)|apply And.intro);all_goals exact bn
              cbv;refine letE h fun Wq Vn h=>⟨_,an hI hM Vn,?_⟩;cbv;refine⟨?_,trivial⟩;refine⟨_,cC (enc:=aq) (x:=(I.wrap .i64 (I.sub Wq 1))) hM (ak _) rfl,?_⟩;cbv;refine⟨?_,trivial⟩;refine ag h fun ahW VF h=>⟨_,ax (enc:=aq) hI hM VF (fun _=>rfl) rfl (fun _=>rfl),?_⟩;cbv;refine⟨?_,trivial⟩;cases h;first|exact Or.inl rfl|exact bn
             cbv;refine ag h fun alx U8 h=>?_;refine ag h fun aa4 VE h=>?_;apply Exists.intro;refine⟨?_,_,rfl,?_⟩
             ·cbv;(repeat' first|exact .inl rfl|exact trivial|(refine⟨_,cC (enc:=(bB M r)) (x:=(⟨fO.kind,fO.name,fO.num,SA⟩:aH)) hM ⟨rfl,rfl,rfl,(eF hM U8),trivial⟩ rfl,?_⟩;cbv)|(refine⟨_,ax (enc:=(bB M r)) hI hM VE (fun _=>rfl) rfl (fun _=>rfl),?_⟩;cbv)|apply And.intro);all_goals exact bn
             cbv;refine letE h fun Wp Vm h=>⟨_,an hI hM Vm,?_⟩;cbv;refine⟨?_,trivial⟩;refine⟨_,cC (enc:=aq) (x:=(I.wrap .i64 (I.sub Wp 1))) hM (ak _) rfl,?_⟩;cbv;refine⟨?_,trivial⟩;refine ag h fun ahV VD h=>⟨_,ax (enc:=aq) hI hM VD (fun _=>rfl) rfl (fun _=>rfl),?_⟩;cbv;refine⟨?_,trivial⟩;cases h;first|exact Or.inl rfl|exact bn
           cbv;refine⟨_,rfl,?_⟩;cbv;refine lp h (fun _=>[]) (fun _=>[]) fun Rm9 m9 Xn st h=>?_;dsimp only[lj]at h;cbv;refine oA (sH hI (by decide)) ?_;cbv;cases h
          refine⟨?_,trivial⟩;refine ag h fun xW Fm h=>⟨fun _=>rfl,(.sl r (M.map aq xW)),g,nx,fun ρ=>by cbv;exact us hc (mG hI hM Fm),?_⟩;cbv;refine ag h fun y34 N3 h=>⟨_,_,_,us hc (cR hI hM N3),?_⟩;cbv;refine si h (fun h=>?_) fun h=>?_
          ·as_aux_lemma=>
            cbv;refine Q8 h fun Mr SB Hh uR DK hj h=>?_;dsimp only at h;refine aY none [(11,(vb Mr))] [(12916010,.box [(vs SB),(vi Hh),(.sl p (M.map (bB M p) uR)),(vi DK)])] g nx ?_ ?_
            ·replace h:=hj;cbv;refine⟨?_,trivial⟩;refine ag h fun Dw BL h=>⟨_,_,_,us hc (lY hI hM BL),?_⟩;cbv;refine ag h fun YC Od h=>?_;refine ag h fun y42 UD h=>?_;apply Exists.intro;refine⟨?_,_,rfl,?_⟩
             ·cbv;(repeat' first|exact .inl rfl|exact trivial|(refine⟨_,ao hM Od rfl,?_⟩;cbv)|(refine⟨_,_,_,us hc (pv hI hM UD),?_⟩;cbv)|apply And.intro);all_goals exact bn
             cbv;refine⟨?_,trivial⟩;cases h;first|exact Or.inl rfl|exact bn
            clear hj;cbv;refine ag h fun k43 VQ h=>?_;refine ag h fun KO Fp h=>?_;refine ag h fun x45 UO h=>?_;refine ag h fun k46 VP h=>?_;refine ag h fun Rp Oc h=>?_;refine ag h fun x48 Oa h=>?_;refine letE h fun Wk Oq h=>?_;apply Exists.intro;refine⟨?_,_,rfl,?_⟩
            ·cbv;(repeat' first|exact .inl rfl|exact trivial|((first|refine⟨_,⟨rfl,rfl,aK hI VQ⟩,?_⟩|refine⟨_,aK hI VQ,?_⟩);cbv)|(refine⟨_,_,rfl,bA hM Fp,rfl,?_⟩;cbv)|(refine⟨_,ao hM UO rfl,?_⟩;cbv)|((first|refine⟨_,⟨rfl,rfl,aK hI VP⟩,?_⟩|refine⟨_,aK hI VP,?_⟩);cbv)|(refine⟨_,_,rfl,bA hM Oc,rfl,?_⟩;cbv)|(refine⟨_,ao hM Oa rfl,?_⟩;cbv)|(refine⟨_,an hI hM Oq,?_⟩;cbv)|apply And.intro);all_goals exact bn
            cbv;refine letE h fun n50 Oo h=>⟨_,an hI hM Oo,?_⟩;cbv;refine lp h (fun(Rj,Tk)=>[(13,(vi Rj)),(56,(vi Tk))]) (fun _=>[]) fun Rm6 m6 rG st h=>?_;obtain⟨Rj,Tk⟩:=st;dsimp only[lq]at h;cbv;refine si h (fun h=>?_) fun h=>?_
            ·cbv;refine ag h fun x53 agn h=>⟨_,ao hM agn rfl,?_⟩;cbv;refine si h (fun h=>?_) fun h=>?_
             ·cbv;exact bY (rG _ _ h)
             cbv;exact bY (rG _ _ h)
            cbv;refine letE h fun n56 Om h=>⟨_,an hI hM Om,?_⟩;cbv;refine⟨_,vT (enc:=aq) (l:=[n56,Rj,(I.wrap .i64 (I.sub (I.wrap .i64 (I.sub Wk rv)) 1))]) hM ⟨⟨(ak _),rfl⟩,⟨(ak _),rfl⟩,⟨(ak _),rfl⟩,trivial⟩,?_⟩;cbv;refine ag h fun y57 afY h=>⟨_,fun hp=>us hc (dF hI hM (aD afY hp.1)),?_⟩;cbv;refine si h (fun h=>?_) fun h=>?_
            ·as_aux_lemma=>
              cbv;refine letE h fun Wj BO h=>⟨_,an hI hM BO,?_⟩;cbv;refine ag h fun Qu JK h=>⟨_,_,gf (enc:=aq) hI hM JK (by decide) rfl,?_⟩;cbv;refine letE h fun H5 Hf h=>?_;refine letE h fun n61 Ol h=>⟨_,_,ix (enc:=aq) hI hM Hf Ol rfl (fun _=>rfl) (fun _=>rfl),?_⟩;cbv;refine⟨_,an hI hM BO,?_⟩;cbv;refine si h (fun h=>?_) fun h=>?_
              ·cbv;refine ag h fun O4 Fz h=>?_;apply Exists.intro;refine⟨?_,_,rfl,?_⟩
               ·cbv;(repeat' first|exact .inl rfl|exact trivial|(refine⟨_,cC (enc:=(bB M r)) (x:=(⟨fO.kind,fO.name,fO.num,[]⟩:aH)) hM ⟨rfl,rfl,rfl,(aJ hM),trivial⟩ rfl,?_⟩;cbv)|(refine⟨_,ax (enc:=(bB M r)) hI hM Fz (fun _=>rfl) rfl (fun _=>rfl),?_⟩;cbv)|apply And.intro);all_goals exact bn
               cbv;refine letE h fun OS Fu h=>⟨_,an hI hM Fu,?_⟩;cbv;refine⟨?_,trivial⟩;refine⟨_,cC (enc:=aq) (x:=(I.wrap .i64 (I.sub OS 1))) hM (ak _) rfl,?_⟩;cbv;refine⟨?_,trivial⟩;refine ag h fun Sp JJ h=>⟨_,ax (enc:=aq) hI hM JJ (fun _=>rfl) rfl (fun _=>rfl),?_⟩;cbv;refine⟨?_,trivial⟩;cases h;first|exact Or.inl rfl|exact bn
              cbv;refine ag h fun u65 agu h=>?_;refine ag h fun YN Ow h=>?_;apply Exists.intro;refine⟨?_,_,rfl,?_⟩
              ·cbv;(repeat' first|exact .inl rfl|exact trivial|(refine⟨_,cC (enc:=(bB M r)) (x:=(⟨fO.kind,fO.name,fO.num,H5⟩:aH)) hM ⟨rfl,rfl,rfl,(eF hM agu),trivial⟩ rfl,?_⟩;cbv)|(refine⟨_,ax (enc:=(bB M r)) hI hM Ow (fun _=>rfl) rfl (fun _=>rfl),?_⟩;cbv)|apply And.intro);all_goals exact bn
              cbv;refine letE h fun n67 agT h=>⟨_,an hI hM agT,?_⟩;cbv;refine⟨?_,trivial⟩;refine⟨_,cC (enc:=aq) (x:=(I.wrap .i64 (I.sub n67 1))) hM (ak _) rfl,?_⟩;cbv;refine⟨?_,trivial⟩;refine ag h fun YM Vu h=>⟨_,ax (enc:=aq) hI hM Vu (fun _=>rfl) rfl (fun _=>rfl),?_⟩;cbv;refine⟨?_,trivial⟩;cases h;first|exact Or.inl rfl|exact bn
            cbv;refine letE h fun n69 agS h=>⟨_,an hI hM agS,?_⟩;cbv;refine lp h (fun(O3,Nb,PU)=>[(90,(vi PU))]) (fun(O3,Nb,PU)=>[(12915008,.box [(vs eR.head),(vi eR.aN),(.gs r (.c 12915008 2) (M.map (bB M r) O3)),(vi 0),(.gs r (.c 12915008 4) (M.map aq ud)),(.fn (.func 71) [(.aR q [(.sl p (M.map (ay M p) ba.ab))] 0)])]),(12916086,.box [(vs ⟨#[]⟩),(vi 0),(.v gD),(vi 0),(.gs r (.c 12916086 4) (M.map aq Nb)),(.v .nilFunc)])]) fun Rm7 m7 wW st h=>?_;obtain⟨O3,Nb,PU⟩:=st;dsimp only[ll]at h;cbv;refine si h (fun h=>?_) fun h=>?_
            ·as_aux_lemma=>
              cbv;refine ag h fun Dy agh h=>⟨_,ao hM agh rfl,?_⟩;cbv;refine si h (fun h=>?_) fun h=>?_
              ·cbv;refine ag h fun x74 UL h=>⟨_,ao hM UL rfl,?_⟩;cbv;refine⟨_,cC (enc:=aq) (x:=x74) hM (ak _) rfl,?_⟩;cbv;refine ag h fun l75 ahm h=>⟨_,ax (enc:=aq) hI hM ahm (fun _=>rfl) rfl (fun _=>rfl),?_⟩;cbv;exact bY (wW _ _ h)
              cbv;refine si h (fun h=>?_) fun h=>?_
              ·cbv;refine ag h fun x76 N8 h=>?_;refine ag h fun x77 agf h=>?_;refine ag h fun x78 age h=>?_;apply Exists.intro;refine⟨?_,_,rfl,?_⟩
               ·cbv;(repeat' first|exact .inl rfl|exact trivial|(refine⟨_,ao hM N8 rfl,?_⟩;cbv)|(refine⟨_,ao hM agf rfl,?_⟩;cbv)|(refine⟨_,ao hM age rfl,?_⟩;cbv)|apply And.intro);all_goals exact bn
               cbv;refine⟨_,cC (enc:=aq) (x:=x78) hM (ak _) rfl,?_⟩;cbv;refine ag h fun l79 ahk h=>⟨_,ax (enc:=aq) hI hM ahk (fun _=>rfl) rfl (fun _=>rfl),?_⟩;cbv;exact bY (wW _ _ h)
              cbv;refine kZ h fun j80 j81 hj h=>?_;dsimp only at h;refine aY none [(19,(vi j80)),(18,.any)] [(12915008,.box [(vs eR.head),(vi eR.aN),(.gs r (.c 12915008 2) (M.map (bB M r) j81)),(vi 0),(.gs r (.c 12915008 4) (M.map aq ud)),(.fn (.func 71) [(.aR q [(.sl p (M.map (ay M p) ba.ab))] 0)])])] g nx ?_ ?_
              ·replace h:=hj;cbv;refine⟨?_,trivial⟩;refine ag h fun y82 afW h=>⟨fun _=>rfl,(.sl r (M.map aq y82)),g,nx,fun ρ=>by cbv;exact us hc (eG hI hM afW),?_⟩;cbv;refine⟨?_,trivial⟩;refine letE h fun YJ JG h=>⟨_,an hI hM JG,?_⟩;cbv;refine ag h fun En Vs h=>⟨_,_,gf (enc:=aq) hI hM Vs (by decide) rfl,?_⟩;cbv;refine letE h fun GW ahh h=>?_;refine letE h fun n86 agM h=>⟨_,_,ix (enc:=aq) hI hM ahh agM rfl (fun _=>rfl) (fun _=>rfl),?_⟩;cbv;refine⟨_,an hI hM JG,?_⟩;cbv;refine si h (fun h=>?_) fun h=>?_
               ·cbv;refine ag h fun l87 ahg h=>?_;apply Exists.intro;refine⟨?_,_,rfl,?_⟩
                ·cbv;(repeat' first|exact .inl rfl|exact trivial|(refine⟨_,cC (enc:=(bB M r)) (x:=(⟨Dy.kind,Dy.name,Dy.num,[]⟩:aH)) hM ⟨rfl,rfl,rfl,(aJ hM),trivial⟩ rfl,?_⟩;cbv)|(refine⟨_,ax (enc:=(bB M r)) hI hM ahg (fun _=>rfl) rfl (fun _=>rfl),?_⟩;cbv)|apply And.intro);all_goals exact bn
                cbv;refine letE h fun n88 agL h=>⟨_,an hI hM agL,?_⟩;cbv;cases h;first|exact Or.inl rfl|exact bn
               cbv;refine ag h fun u89 ags h=>?_;refine ag h fun l90 ahe h=>?_;apply Exists.intro;refine⟨?_,_,rfl,?_⟩
               ·cbv;(repeat' first|exact .inl rfl|exact trivial|(refine⟨_,cC (enc:=(bB M r)) (x:=(⟨Dy.kind,Dy.name,Dy.num,GW⟩:aH)) hM ⟨rfl,rfl,rfl,(eF hM ags),trivial⟩ rfl,?_⟩;cbv)|(refine⟨_,ax (enc:=(bB M r)) hI hM ahe (fun _=>rfl) rfl (fun _=>rfl),?_⟩;cbv)|apply And.intro);all_goals exact bn
               cbv;refine letE h fun n91 agK h=>⟨_,an hI hM agK,?_⟩;cbv;cases h;first|exact Or.inl rfl|exact bn
              clear hj;cbv;refine⟨_,cC (enc:=aq) (x:=j80) hM (ak _) rfl,?_⟩;cbv;refine ag h fun l92 ahd h=>⟨_,ax (enc:=aq) hI hM ahd (fun _=>rfl) rfl (fun _=>rfl),?_⟩;cbv;exact bY (wW _ _ h)
            cbv;refine ag h fun x96 af7 h=>?_;apply Exists.intro;refine⟨?_,_,rfl,?_⟩
            ·cbv;(repeat' first|exact .inl rfl|exact trivial|(refine⟨_,ao hM af7 rfl,?_⟩;cbv)|apply And.intro);all_goals exact bn
            cbv;refine⟨?_,trivial⟩;refine⟨_,cC (enc:=aq) (x:=x96) hM (ak _) rfl,?_⟩;cbv;refine⟨?_,trivial⟩;refine ag h fun l97 ahb h=>⟨_,ax (enc:=aq) hI hM ahb (fun _=>rfl) rfl (fun _=>rfl),?_⟩;cbv;refine⟨?_,trivial⟩;cases h;first|exact Or.inl rfl|exact bn
          cbv;refine ag h fun k98 VN h=>?_;refine ag h fun x99 af6 h=>?_;refine ag h fun aeE U5 h=>?_;refine ag h fun ah6 LK h=>?_;refine ag h fun aeD U4 h=>?_;refine ag h fun aeC U3 h=>?_;refine letE h fun Wr Vp h=>?_;apply Exists.intro;refine⟨?_,_,rfl,?_⟩
          ·cbv;(repeat' first|exact .inl rfl|exact trivial|((first|refine⟨_,⟨rfl,rfl,aK hI VN⟩,?_⟩|refine⟨_,aK hI VN,?_⟩);cbv)|(refine⟨_,_,rfl,bA hM af6,rfl,?_⟩;cbv)|(refine⟨_,ao hM U5 rfl,?_⟩;cbv)|((first|refine⟨_,⟨rfl,rfl,aK hI LK⟩,?_⟩|refine⟨_,aK hI LK,?_⟩);cbv)|(refine⟨_,_,rfl,bA hM U4,rfl,?_⟩;cbv)|(refine⟨_,ao hM U3 rfl,?_⟩;cbv)|(refine⟨_,an hI hM Vp,?_⟩;cbv)|apply And.intro);all_goals exact bn
          cbv;refine⟨_,rfl,?_⟩;cbv;refine lp h (fun _=>[]) (fun _=>[]) fun Rm8 m8 Cd st h=>?_;dsimp only[lk]at h;cbv;refine oA (sH hI (by decide)) ?_;cbv;refine letE h fun JZ Fy h=>⟨_,an hI hM Fy,?_⟩;cbv;refine⟨_,vT (enc:=aq) (l:=[JZ,0,(I.wrap .i64 (I.sub (I.wrap .i64 (I.sub Wr rv)) 1))]) hM ⟨⟨(ak _),rfl⟩,⟨(ak _),rfl⟩,⟨(ak _),rfl⟩,trivial⟩,?_⟩;cbv;refine ag h fun aet UK h=>⟨_,fun hp=>us hc (dF hI hM (aD UK hp.1)),?_⟩;cbv;refine si h (fun h=>?_) fun h=>?_
          ·as_aux_lemma=>
            cbv;refine letE h fun aaI LG h=>⟨_,an hI hM LG,?_⟩;cbv;refine ag h fun Mo VI h=>⟨_,_,gf (enc:=aq) hI hM VI (by decide) rfl,?_⟩;cbv;refine letE h fun SA VH h=>?_;refine letE h fun amY Vo h=>⟨_,_,ix (enc:=aq) hI hM VH Vo rfl (fun _=>rfl) (fun _=>rfl),?_⟩;cbv;refine⟨_,an hI hM LG,?_⟩;cbv;refine si h (fun h=>?_) fun h=>?_
            ·cbv;refine ag h fun Mn FB h=>?_;apply Exists.intro;refine⟨?_,_,rfl,?_⟩
             ·cbv;(repeat' first|exact .inl rfl|exact trivial|(refine⟨_,cC (enc:=(bB M r)) (x:=(⟨fO.kind,fO.name,fO.num,[]⟩:aH)) hM ⟨rfl,rfl,rfl,(aJ hM),trivial⟩ rfl,?_⟩;cbv)|(refine⟨_,ax (enc:=(bB M r)) hI hM FB (fun _=>rfl) rfl (fun _=>rfl),?_⟩;cbv)|apply And.intro);all_goals exact bn
             cbv;refine letE h fun Wq Vn h=>⟨_,an hI hM Vn,?_⟩;cbv;refine⟨?_,trivial⟩;refine⟨_,cC (enc:=aq) (x:=(I.wrap .i64 (I.sub Wq 1))) hM (ak _) rfl,?_⟩;cbv;refine⟨?_,trivial⟩;refine ag h fun ahW VF h=>⟨_,ax (enc:=aq) hI hM VF (fun _=>rfl) rfl (fun _=>rfl),?_⟩;cbv;refine⟨?_,trivial⟩;cases h;first|exact Or.inl rfl|exact bn
            cbv;refine ag h fun alx U8 h=>?_;refine ag h fun aa4 VE h=>?_;apply Exists.intro;refine⟨?_,_,rfl,?_⟩
            ·cbv;(repeat' first|exact .inl rfl|exact trivial|(refine⟨_,cC (enc:=(bB M r)) (x:=(⟨fO.kind,fO.name,fO.num,SA⟩:aH)) hM ⟨rfl,rfl,rfl,(eF hM U8),trivial⟩ rfl,?_⟩;cbv)|(refine⟨_,ax (enc:=(bB M r)) hI hM VE (fun _=>rfl) rfl (fun _=>rfl),?_⟩;cbv)|apply And.intro);all_goals exact bn
            cbv;refine letE h fun Wp Vm h=>⟨_,an hI hM Vm,?_⟩;cbv;refine⟨?_,trivial⟩;refine⟨_,cC (enc:=aq) (x:=(I.wrap .i64 (I.sub Wp 1))) hM (ak _) rfl,?_⟩;cbv;refine⟨?_,trivial⟩;refine ag h fun ahV VD h=>⟨_,ax (enc:=aq) hI hM VD (fun _=>rfl) rfl (fun _=>rfl),?_⟩;cbv;refine⟨?_,trivial⟩;cases h;first|exact Or.inl rfl|exact bn
          cbv;refine⟨_,rfl,?_⟩;cbv;refine lp h (fun _=>[]) (fun _=>[]) fun Rm9 m9 Xn st h=>?_;dsimp only[lj]at h;cbv;refine oA (sH hI (by decide)) ?_;cbv;cases h
         clear hj;cbv;exact bY (oX _ _ h)
       cbv;refine ag h fun aex amc h=>?_;apply Exists.intro;refine⟨?_,_,rfl,?_⟩
       ·cbv;(repeat' first|exact .inl rfl|exact trivial|(refine⟨_,ao hM amc rfl,?_⟩;cbv)|apply And.intro);all_goals exact bn
       cbv;refine ag h fun ank ads h=>?_
       (first|refine⟨_,⟨rfl,rfl,aK hI ads⟩,?_⟩|refine⟨_,aK hI ads,?_⟩)
       cbv;refine ag h fun alq amb h=>⟨_,_,rfl,bA hM amb,rfl,?_⟩;cbv;refine ag h fun ah2 amy h=>⟨_,gG hI hM amy,?_⟩;cbv;refine ag h fun Ze UX h=>?_;refine ag h fun ane amm h=>?_;refine ag h fun Sx HP h=>?_;apply Exists.intro;refine⟨?_,_,rfl,?_⟩
       ·cbv;(repeat' first|exact .inl rfl|exact trivial|(refine⟨_,_,_,⟨rfl,bA (enc:=(ay M r)) hM UX,rfl,rfl⟩,?_⟩;cbv)|(refine⟨_,cC (enc:=(az M r)) (x:=(⟨eR.head,eR.aN,nV,aex⟩:ah)) hM (ak _) rfl,?_⟩;cbv)|(refine⟨_,ax (enc:=(az M r)) hI hM amm (fun _=>rfl) rfl (fun _=>rfl),?_⟩;cbv)|((first|refine⟨_,su (enc:=(ay M r)) hI hM UX HP (show 2<3 from by decide) rfl,?_⟩|refine⟨rfl,rfl,rfl,_,su (enc:=(ay M r)) hI hM UX HP (show 2<3 from by decide) rfl,?_⟩);cbv)|apply And.intro);all_goals exact bn
       cbv;(try(refine⟨rfl,?_⟩;cbv));refine lW hI ?_;cbv;exact bY (ni _ _ h)
     cbv;exact bY (jO _ _ h)
   cbv;(try(refine⟨rfl,?_⟩;cbv));refine ag h fun ard amg h=>?_;obtain rfl:=oJ h;cbv;(all_goals(repeat' apply And.intro));all_goals first|trivial|rfl|exact(aJ hM)|exact(eF hM amg)
 cbv;cases h
end Ab
