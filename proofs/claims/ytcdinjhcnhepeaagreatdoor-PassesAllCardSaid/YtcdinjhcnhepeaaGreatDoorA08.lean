/- PassesAll holds of all pairs of cores (no condition): a part of the proof: an abstract interpreter of the code that is proved sound, models of the functions, and laws of these models. -/
import Derived.Test.YtcdinjhcnhepeaaGreatDoorA02
import Derived.Test.YtcdinjhcnhepeaaGreatDoorA04
import Derived.Test.YtcdinjhcnhepeaaGreatDoorA04c
import Derived.Test.YtcdinjhcnhepeaaGreatDoorA03
set_option linter.unusedVariables false
set_option linter.unusedSimpArgs false
set_option linter.unusedSectionVars false
namespace Ab
open Go Go.Proofs.Tryz
set_option maxHeartbeats 100000000
set_option maxRecDepth 100000
variable{I:Pr}(hI:I=ak){M:Md}(hM:M= .ak){n nx r s p q u rl:Nat}{g:Nat→Option Ob}
 include hI hM
theorem xZ{a0:ai}{bn:ai}{v:ai}(h:oh I M n a0 bn=some v):
  cj 70 [(.agg (bd M p a0)),(.fn (.func 73) [(.aX q (bd M p bn) 0)])] (.agg (bd M r v)) g nx:=by
 refine Aq func70 c70 r UT Yh [5] 10 ntmps70 [.cell 4 24] hI (bF.cons (sB r) (bF.cons (Nx r) (bF.cons (Ny r) (bF.cons (wo r) (bF.cons (abV r) (bF.cons (wq r) (bF.cons (yO r) (vK PP im)))))))) 8 fun call hc=>?_;cbv;refine letE h fun l1 Kk h=>⟨_,⟨rfl,eR (enc:=ax) hI hM Kk rfl⟩,?_⟩;cbv;refine letE h fun n2 pf h=>⟨_,an hI hM pf,?_⟩;cbv;refine kU n (fun kS aZ=>?_);cbv;refine si h (fun h=>?_) fun h=>?_
 ·as_aux_lemma=>
   cbv;refine ah h fun x3 lG h=>⟨_,aq hM lG rfl,?_⟩;cbv;refine⟨_,RV (by rfl),?_⟩;cbv;refine ah h fun l4 NZ h=>⟨sg hI NZ,_,_,zT (enc:=(aA M r)) hI hM NZ (by have e0:=aK (enc:=(aB M r)) hM;simp only[aA,vi,vs,vb,cv,eJ,e0]),?_⟩;cbv;refine aZ _ (lpD h [50009] (fun(l5,z6)=>[(19,(vi z6)),(20,.any)]) (fun(l5,z6)=>[(50007,.box [(.jB (.s 50031) (M.ln l5))]),(50031,.ow (.sl 3) none (M.map (aA M r) l5))]) fun Dc m2 dm st h=>?_);obtain⟨l5,z6⟩:=st;dsimp only[cU]at h;cbv;refine si h (fun h=>?_) fun h=>?_
   ·cbv;refine ah h fun x7 zr h=>⟨_,aq hM zr rfl,?_⟩;cbv;refine⟨_,RV (by rfl),?_⟩;cbv;refine ah h fun l8 SW h=>?_
    (refine⟨_,_,F5 (enc:=(aA M r)) hI hM SW ?_,?_⟩;next=>have e0:=aK (enc:=(aB M r)) hM;simp only[aA,vi,vs,vb,cv,eJ,e0])
    cbv;exact b8 (dm _ _ h)
   cbv;intro l;cbv;refine letE h fun xa zS h=>⟨_,an hI hM zS,?_⟩;cbv;refine lp h (fun(ia,yY,eU)=>[(10,(vi eU))]) (fun(ia,yY,eU)=>[(5,.arr 1 (M.map ax ia)),(50031,.ow (.sl 3) none (M.map (aA M r) yY))]) fun QA m3 kI st h=>?_;obtain⟨ia,yY,eU⟩:=st;dsimp only[dN]at h;cbv;refine si h (fun h=>?_) fun h=>?_
   ·as_aux_lemma=>
     cbv;refine ah h fun AB D9 h=>⟨_,aq hM D9 rfl,?_⟩;cbv;refine letE h fun Gd FX h=>⟨_,an hI hM FX,?_⟩;cbv;refine lp h (fun(ua,rJ,fh)=>[(18,(vi fh))]) (fun(ua,rJ,fh)=>[(5,.arr 1 (M.map ax ua)),(50031,.ow (.sl 3) none (M.map (aA M r) rJ))]) fun YG m4 sW st h=>?_;obtain⟨ua,rJ,fh⟩:=st;dsimp only[dM]at h;cbv;refine si h (fun h=>?_) fun h=>?_
     ·as_aux_lemma=>
       cbv;refine ah h fun eT FR h=>⟨_,aq hM FR rfl,?_⟩;cbv;(try(refine⟨⟨rfl,rfl,rfl⟩,?_⟩;cbv));refine letE h fun xP Ki h=>⟨_,⟨rfl,eR (enc:=ax) hI hM Ki rfl⟩,?_⟩;cbv;refine ah h fun Zs AX h=>?_
       (first|refine⟨_,⟨aQ hI hM AX,tP (enc:=ax) (l:=[eU,fh]) hI hM rfl⟩,?_⟩|refine⟨_,⟨rfl,aQ hI hM AX,rfl,rfl,tP (enc:=ax) (l:=[eU,fh]) hI hM rfl⟩,?_⟩)
       cbv;(try(refine⟨rfl,?_⟩;cbv));refine ah h fun Sh sT h=>?_
       (first|refine⟨⟨rfl,aQ hI hM sT,rfl⟩,?_⟩|refine⟨⟨aQ hI hM sT,trivial⟩,?_⟩|refine⟨aQ hI hM sT,?_⟩)
       cbv;(try(refine⟨⟨by decide,by decide⟩,?_⟩;cbv));refine ah h fun YY vR h=>?_
       (first|refine⟨⟨rfl,aQ hI hM vR,rfl⟩,?_⟩|refine⟨⟨aQ hI hM vR,trivial⟩,?_⟩|refine⟨aQ hI hM vR,?_⟩)
       cbv;refine ah h fun UO Cp h=>?_
       (first|refine⟨⟨rfl,rfl,rfl,aQ hI hM Cp,rfl,(by have hq:=cg (enc:=ax) hM (fun _=>rfl) ([eU,fh]);rw[cR.eq_def]at hq;exact hq)⟩,?_⟩|refine⟨⟨aQ hI hM Cp,(by have hq:=cg (enc:=ax) hM (fun _=>rfl) ([eU,fh]);rw[cR.eq_def]at hq;exact hq)⟩,?_⟩)
       cbv;apply Exists.intro;refine⟨?_,_,rfl,?_⟩
       ·cbv;(repeat' first|exact .inl rfl|exact trivial|apply And.intro);all_goals exact bw
       cbv;refine letE h fun n26 ahs h=>⟨_,an hI hM ahs,?_⟩;cbv;refine lp h (fun(re,v9,AG)=>[(56,(vi AG))]) (fun(re,v9,AG)=>[(12915008,.box [(vs eT.head),(vi eT.aM),(.gs r (.c 12915008 2) (M.map (bu M r) re)),(vi 0),(.gs r (.c 12915008 4) (M.map ax v9)),(.fn (.func 73) [(.aX q [(.sl p (M.map (aA M p) bn.af))] 0)])])]) fun YF m5 sV st h=>?_;obtain⟨re,v9,AG⟩:=st;dsimp only[cT]at h;cbv;refine si h (fun h=>?_) fun h=>?_
       ·as_aux_lemma=>
         cbv;refine ah h fun gO Vs h=>⟨_,aq hM Vs rfl,?_⟩;cbv;refine lC h fun Xi j32 hj h=>?_;dsimp only at h;refine bk none [(13,.any),(14,.any)] [(12915008,.box [(vs eT.head),(vi eT.aM),(.gs r (.c 12915008 2) (M.map (bu M r) Xi)),(vi 0),(.gs r (.c 12915008 4) (M.map ax j32)),(.fn (.func 73) [(.aX q [(.sl p (M.map (aA M p) bn.af))] 0)])])] g nx ?_ ?_
         ·replace h:=hj;cbv;refine⟨?_,?_⟩
          ·refine⟨?_,trivial⟩;refine ah h fun yT FN h=>⟨fun _=>rfl,(.sl r (M.map ax yT)),g,nx,fun ρ=>by cbv;exact us hc (mA hI hM FN),?_⟩;cbv;refine ah h fun y34 OU h=>⟨_,_,_,us hc (dI hI hM OU),?_⟩;cbv;refine si h (fun h=>?_) fun h=>?_
           ·as_aux_lemma=>
             cbv;refine RU h fun M5 To HJ wh Eg hj h=>?_;dsimp only at h;refine bk none [(11,(vb M5))] [(12916010,.box [(vs To),(vi HJ),(.sl p (M.map (bu M p) wh)),(vi Eg)])] g nx ?_ ?_
             ·replace h:=hj;cbv;refine⟨?_,trivial⟩;refine ah h fun AH Cn h=>⟨_,_,_,us hc (mK hI hM Cn),?_⟩;cbv;refine ah h fun Ol J8 h=>⟨_,aq hM J8 rfl,?_⟩;cbv;refine si h (fun h=>?_) fun h=>?_
              ·cbv;refine⟨?_,trivial⟩;cases h;first|exact Or.inl rfl|exact bw
              cbv;refine ah h fun x42 agQ h=>?_;refine ah h fun x43 Vq h=>?_;refine ah h fun LJ J7 h=>?_;apply Exists.intro;refine⟨?_,_,rfl,?_⟩
              ·cbv;(repeat' first|exact .inl rfl|exact trivial|(refine⟨_,aq hM agQ rfl,?_⟩;cbv)|(refine⟨_,aq hM Vq rfl,?_⟩;cbv)|(refine⟨_,aq hM J7 rfl,?_⟩;cbv)|apply And.intro);all_goals exact bw
              cbv;refine letE h fun MO Cr h=>⟨_,an hI hM Cr,?_⟩;cbv;refine lp h (fun R6=>[(42,(vi R6))]) (fun R6=>[]) fun Rm6 m6 vj R6 h=>?_;dsimp only[cC]at h;cbv;refine si h (fun h=>?_) fun h=>?_
              ·cbv;refine ah h fun Oj J6 h=>⟨_,aq hM J6 rfl,?_⟩;cbv;refine letE h fun N0 FW h=>⟨_,an hI hM FW,?_⟩;cbv;refine si h (fun h=>?_) fun h=>?_
               ·cbv;refine ah h fun y49 Ve h=>?_;apply Exists.intro;refine⟨?_,_,rfl,?_⟩
                ·cbv;(repeat' first|exact .inl rfl|exact trivial|(refine⟨_,_,_,us hc (qT hI hM Ve),?_⟩;cbv)|apply And.intro);all_goals exact bw
                cbv;refine⟨?_,trivial⟩;cases h;first|exact Or.inl rfl|exact bw
               cbv;exact b8 (vj _ _ h)
              cbv;refine⟨?_,trivial⟩;cases h;first|exact Or.inl rfl|exact bw
             clear hj;cbv;refine ah h fun Xf Kl h=>?_;refine ah h fun YW J5 h=>?_;refine ah h fun x59 SO h=>?_;refine ah h fun k60 Ww h=>?_;refine ah h fun x61 agM h=>?_;refine ah h fun x62 agL h=>?_;refine letE h fun PA FV h=>?_;apply Exists.intro;refine⟨?_,_,rfl,?_⟩
             ·cbv;(repeat' first|exact .inl rfl|exact trivial|((first|refine⟨_,⟨rfl,rfl,aL hI Kl⟩,?_⟩|refine⟨_,aL hI Kl,?_⟩);cbv)|(refine⟨_,_,rfl,bj hM J5,rfl,?_⟩;cbv)|(refine⟨_,aq hM SO rfl,?_⟩;cbv)|((first|refine⟨_,⟨rfl,rfl,aL hI Ww⟩,?_⟩|refine⟨_,aL hI Ww,?_⟩);cbv)|(refine⟨_,_,rfl,bj hM agM,rfl,?_⟩;cbv)|(refine⟨_,aq hM agL rfl,?_⟩;cbv)|(refine⟨_,an hI hM FV,?_⟩;cbv)|apply And.intro);all_goals exact bw
             cbv;refine letE h fun n64 ahl h=>⟨_,an hI hM ahl,?_⟩;cbv;refine lp h (fun(T7,T6)=>[(13,(vi T7)),(56,(vi T6))]) (fun _=>[]) fun Rm7 m7 zb st h=>?_;obtain⟨T7,T6⟩:=st;dsimp only[ig]at h;cbv;refine si h (fun h=>?_) fun h=>?_
             ·cbv;refine ah h fun x67 agK h=>⟨_,aq hM agK rfl,?_⟩;cbv;refine si h (fun h=>?_) fun h=>?_
              ·cbv;exact b8 (zb _ _ h)
              cbv;exact b8 (zb _ _ h)
             cbv;refine letE h fun n70 ahi h=>⟨_,an hI hM ahi,?_⟩;cbv;refine⟨_,xh (enc:=ax) (l:=[n70,T7,(I.wrap .i64 (I.sub (I.wrap .i64 (I.sub PA AG)) 1))]) hM ⟨⟨(ao _),rfl⟩,⟨(ao _),rfl⟩,⟨(ao _),rfl⟩,trivial⟩,?_⟩;cbv;refine ah h fun y71 agt h=>⟨_,fun hp=>us hc (dU hI hM (aE agt hp.1)),?_⟩;cbv;refine si h (fun h=>?_) fun h=>?_
             ·as_aux_lemma=>
               cbv;refine letE h fun n72 Mk h=>⟨_,an hI hM Mk,?_⟩;cbv;refine ah h fun W8 V7 h=>⟨_,_,eh (enc:=ax) hI hM V7 (by decide) rfl,?_⟩;cbv;refine letE h fun l74 SX h=>?_;refine letE h fun n75 ahh h=>⟨_,_,iK (enc:=ax) hI hM SX ahh rfl (fun _=>rfl) (fun _=>rfl),?_⟩;cbv;refine⟨_,an hI hM Mk,?_⟩;cbv;refine si h (fun h=>?_) fun h=>?_
               ·cbv;refine ah h fun l76 V6 h=>?_;apply Exists.intro;refine⟨?_,_,rfl,?_⟩
                ·cbv;(repeat' first|exact .inl rfl|exact trivial|(refine⟨_,cq (enc:=(bu M r)) (x:=(⟨gO.kind,gO.name,gO.num,[]⟩:aD)) hM ⟨rfl,rfl,rfl,(aK hM),trivial⟩ rfl,?_⟩;cbv)|(refine⟨_,ay (enc:=(bu M r)) hI hM V6 (fun _=>rfl) rfl (fun _=>rfl),?_⟩;cbv)|apply And.intro);all_goals exact bw
                cbv;refine letE h fun Y2 VJ h=>⟨_,an hI hM VJ,?_⟩;cbv;refine⟨?_,trivial⟩;refine⟨_,cq (enc:=ax) (x:=(I.wrap .i64 (I.sub Y2 1))) hM (ao _) rfl,?_⟩;cbv;refine⟨?_,trivial⟩;refine ah h fun KA Mn h=>⟨_,ay (enc:=ax) hI hM Mn (fun _=>rfl) rfl (fun _=>rfl),?_⟩;cbv;refine⟨?_,trivial⟩;cases h;first|exact Or.inl rfl|exact bw
               cbv;refine ah h fun u79 agX h=>?_;refine ah h fun l80 ahE h=>?_;apply Exists.intro;refine⟨?_,_,rfl,?_⟩
               ·cbv;(repeat' first|exact .inl rfl|exact trivial|(refine⟨_,cq (enc:=(bu M r)) (x:=(⟨gO.kind,gO.name,gO.num,l74⟩:aD)) hM ⟨rfl,rfl,rfl,(dG hM agX),trivial⟩ rfl,?_⟩;cbv)|(refine⟨_,ay (enc:=(bu M r)) hI hM ahE (fun _=>rfl) rfl (fun _=>rfl),?_⟩;cbv)|apply And.intro);all_goals exact bw
               cbv;refine letE h fun n81 ahg h=>⟨_,an hI hM ahg,?_⟩;cbv;refine⟨?_,trivial⟩;refine⟨_,cq (enc:=ax) (x:=(I.wrap .i64 (I.sub n81 1))) hM (ao _) rfl,?_⟩;cbv;refine⟨?_,trivial⟩;refine ah h fun l82 ahD h=>⟨_,ay (enc:=ax) hI hM ahD (fun _=>rfl) rfl (fun _=>rfl),?_⟩;cbv;refine⟨?_,trivial⟩;cases h;first|exact Or.inl rfl|exact bw
             cbv;refine letE h fun Y1 Kb h=>⟨_,an hI hM Kb,?_⟩;cbv;refine lp h (fun(BZ,DL,Lx)=>[(90,(vi Lx))]) (fun(BZ,DL,Lx)=>[(12915008,.box [(vs eT.head),(vi eT.aM),(.gs r (.c 12915008 2) (M.map (bu M r) BZ)),(vi 0),(.gs r (.c 12915008 4) (M.map ax v9)),(.fn (.func 73) [(.aX q [(.sl p (M.map (aA M p) bn.af))] 0)])]),(12916086,.box [(vs ⟨#[]⟩),(vi 0),(.v gQ),(vi 0),(.gs r (.c 12916086 4) (M.map ax DL)),(.v .nilFunc)])]) fun Rm8 m8 GG st h=>?_;obtain⟨BZ,DL,Lx⟩:=st;dsimp only[ic]at h;cbv;refine si h (fun h=>?_) fun h=>?_
             ·as_aux_lemma=>
               cbv;refine ah h fun D4 agG h=>⟨_,aq hM agG rfl,?_⟩;cbv;refine si h (fun h=>?_) fun h=>?_
               ·cbv;refine ah h fun YV Vm h=>⟨_,aq hM Vm rfl,?_⟩;cbv;refine⟨_,cq (enc:=ax) (x:=YV) hM (ao _) rfl,?_⟩;cbv;refine ah h fun l89 ahA h=>⟨_,ay (enc:=ax) hI hM ahA (fun _=>rfl) rfl (fun _=>rfl),?_⟩;cbv;exact b8 (GG _ _ h)
               cbv;refine si h (fun h=>?_) fun h=>?_
               ·cbv;refine ah h fun x90 agF h=>?_;refine ah h fun x91 agE h=>?_;refine ah h fun x92 agD h=>?_;apply Exists.intro;refine⟨?_,_,rfl,?_⟩
                ·cbv;(repeat' first|exact .inl rfl|exact trivial|(refine⟨_,aq hM agF rfl,?_⟩;cbv)|(refine⟨_,aq hM agE rfl,?_⟩;cbv)|(refine⟨_,aq hM agD rfl,?_⟩;cbv)|apply And.intro);all_goals exact bw
                cbv;refine⟨_,cq (enc:=ax) (x:=x92) hM (ao _) rfl,?_⟩;cbv;refine ah h fun l93 ahx h=>⟨_,ay (enc:=ax) hI hM ahx (fun _=>rfl) rfl (fun _=>rfl),?_⟩;cbv;exact b8 (GG _ _ h)
               cbv;refine lC h fun j94 j95 hj h=>?_;dsimp only at h;refine bk none [(19,(vi j94)),(18,.any)] [(12915008,.box [(vs eT.head),(vi eT.aM),(.gs r (.c 12915008 2) (M.map (bu M r) j95)),(vi 0),(.gs r (.c 12915008 4) (M.map ax v9)),(.fn (.func 73) [(.aX q [(.sl p (M.map (aA M p) bn.af))] 0)])])] g nx ?_ ?_
               ·replace h:=hj;cbv;refine⟨?_,trivial⟩;refine ah h fun y96 agr h=>⟨fun _=>rfl,(.sl r (M.map ax y96)),g,nx,fun ρ=>by cbv;exact us hc (eL hI hM agr),?_⟩;cbv;refine⟨?_,trivial⟩;refine letE h fun n97 VI h=>⟨_,an hI hM VI,?_⟩;cbv;refine ah h fun l98 ahv h=>⟨_,_,eh (enc:=ax) hI hM ahv (by decide) rfl,?_⟩;cbv;refine letE h fun l99 ahu h=>?_;refine letE h fun am4 V4 h=>⟨_,_,iK (enc:=ax) hI hM ahu V4 rfl (fun _=>rfl) (fun _=>rfl),?_⟩;cbv;refine⟨_,an hI hM VI,?_⟩;cbv;refine si h (fun h=>?_) fun h=>?_
                ·cbv;refine ah h fun abl Wu h=>?_;apply Exists.intro;refine⟨?_,_,rfl,?_⟩
                 ·cbv;(repeat' first|exact .inl rfl|exact trivial|(refine⟨_,cq (enc:=(bu M r)) (x:=(⟨D4.kind,D4.name,D4.num,[]⟩:aD)) hM ⟨rfl,rfl,rfl,(aK hM),trivial⟩ rfl,?_⟩;cbv)|(refine⟨_,ay (enc:=(bu M r)) hI hM Wu (fun _=>rfl) rfl (fun _=>rfl),?_⟩;cbv)|apply And.intro);all_goals exact bw
                 cbv;refine letE h fun ah7 V3 h=>⟨_,an hI hM V3,?_⟩;cbv;cases h;first|exact Or.inl rfl|exact bw
                cbv;refine ah h fun alT VH h=>?_;refine ah h fun abk Wt h=>?_;apply Exists.intro;refine⟨?_,_,rfl,?_⟩
                ·cbv;(repeat' first|exact .inl rfl|exact trivial|(refine⟨_,cq (enc:=(bu M r)) (x:=(⟨D4.kind,D4.name,D4.num,l99⟩:aD)) hM ⟨rfl,rfl,rfl,(dG hM VH),trivial⟩ rfl,?_⟩;cbv)|(refine⟨_,ay (enc:=(bu M r)) hI hM Wt (fun _=>rfl) rfl (fun _=>rfl),?_⟩;cbv)|apply And.intro);all_goals exact bw
                cbv;refine letE h fun Kx FY h=>⟨_,an hI hM FY,?_⟩;cbv;cases h;first|exact Or.inl rfl|exact bw
               clear hj;cbv;refine⟨_,cq (enc:=ax) (x:=j94) hM (ao _) rfl,?_⟩;cbv;refine ah h fun aij Ws h=>⟨_,ay (enc:=ax) hI hM Ws (fun _=>rfl) rfl (fun _=>rfl),?_⟩;cbv;exact b8 (GG _ _ h)
             cbv;refine ah h fun UC VA h=>?_;apply Exists.intro;refine⟨?_,_,rfl,?_⟩
             ·cbv;(repeat' first|exact .inl rfl|exact trivial|(refine⟨_,aq hM VA rfl,?_⟩;cbv)|apply And.intro);all_goals exact bw
             cbv;refine⟨?_,trivial⟩;refine⟨_,cq (enc:=ax) (x:=UC) hM (ao _) rfl,?_⟩;cbv;refine⟨?_,trivial⟩;refine ah h fun M1 F1 h=>⟨_,ay (enc:=ax) hI hM F1 (fun _=>rfl) rfl (fun _=>rfl),?_⟩;cbv;refine⟨?_,trivial⟩;cases h;first|exact Or.inl rfl|exact bw
           cbv;refine ah h fun air Mp h=>?_;refine ah h fun ae8 Vz h=>?_;refine ah h fun ae7 Vy h=>?_;refine ah h fun aiq Mo h=>?_;refine ah h fun ae6 Vx h=>?_;refine ah h fun ae5 Vw h=>?_;refine letE h fun W2 VY h=>?_;apply Exists.intro;refine⟨?_,_,rfl,?_⟩
           ·cbv;(repeat' first|exact .inl rfl|exact trivial|((first|refine⟨_,⟨rfl,rfl,aL hI Mp⟩,?_⟩|refine⟨_,aL hI Mp,?_⟩);cbv)|(refine⟨_,_,rfl,bj hM Vz,rfl,?_⟩;cbv)|(refine⟨_,aq hM Vy rfl,?_⟩;cbv)|((first|refine⟨_,⟨rfl,rfl,aL hI Mo⟩,?_⟩|refine⟨_,aL hI Mo,?_⟩);cbv)|(refine⟨_,_,rfl,bj hM Vx,rfl,?_⟩;cbv)|(refine⟨_,aq hM Vw rfl,?_⟩;cbv)|(refine⟨_,an hI hM VY,?_⟩;cbv)|apply And.intro);all_goals exact bw
           cbv;refine⟨_,rfl,?_⟩;cbv;refine lp h (fun _=>[]) (fun _=>[]) fun Rm9 m9 XL st h=>?_;dsimp only[ib]at h;cbv;refine jR (oD hI (by decide)) ?_;cbv;refine letE h fun W1 VX h=>⟨_,an hI hM VX,?_⟩;cbv;refine⟨_,xh (enc:=ax) (l:=[W1,0,(I.wrap .i64 (I.sub (I.wrap .i64 (I.sub W2 AG)) 1))]) hM ⟨⟨(ao _),rfl⟩,⟨(ao _),rfl⟩,⟨(ao _),rfl⟩,trivial⟩,?_⟩;cbv;refine ah h fun aeZ Vk h=>⟨_,fun hp=>us hc (dU hI hM (aE Vk hp.1)),?_⟩;cbv;refine si h (fun h=>?_) fun h=>?_
           ·as_aux_lemma=>
             cbv;refine letE h fun aa6 Ml h=>⟨_,an hI hM Ml,?_⟩;cbv;refine ah h fun Ti Wl h=>⟨_,_,eh (enc:=ax) hI hM Wl (by decide) rfl,?_⟩;cbv;refine letE h fun Th Wk h=>?_;refine letE h fun am2 VV h=>⟨_,_,iK (enc:=ax) hI hM Wk VV rfl (fun _=>rfl) (fun _=>rfl),?_⟩;cbv;refine⟨_,an hI hM Ml,?_⟩;cbv;refine si h (fun h=>?_) fun h=>?_
             ·cbv;refine ah h fun abi Wj h=>?_;apply Exists.intro;refine⟨?_,_,rfl,?_⟩
              ·cbv;(repeat' first|exact .inl rfl|exact trivial|(refine⟨_,cq (enc:=(bu M r)) (x:=(⟨gO.kind,gO.name,gO.num,[]⟩:aD)) hM ⟨rfl,rfl,rfl,(aK hM),trivial⟩ rfl,?_⟩;cbv)|(refine⟨_,ay (enc:=(bu M r)) hI hM Wj (fun _=>rfl) rfl (fun _=>rfl),?_⟩;cbv)|apply And.intro);all_goals exact bw
              cbv;refine letE h fun W0 VU h=>⟨_,an hI hM VU,?_⟩;cbv;refine⟨?_,trivial⟩;refine⟨_,cq (enc:=ax) (x:=(I.wrap .i64 (I.sub W0 1))) hM (ao _) rfl,?_⟩;cbv;refine⟨?_,trivial⟩;refine ah h fun Tg Iv h=>⟨_,ay (enc:=ax) hI hM Iv (fun _=>rfl) rfl (fun _=>rfl),?_⟩;cbv;refine⟨?_,trivial⟩;cases h;first|exact Or.inl rfl|exact bw
             cbv;refine ah h fun alR VF h=>?_;refine ah h fun Tf Wi h=>?_;apply Exists.intro;refine⟨?_,_,rfl,?_⟩
             ·cbv;(repeat' first|exact .inl rfl|exact trivial|(refine⟨_,cq (enc:=(bu M r)) (x:=(⟨gO.kind,gO.name,gO.num,Th⟩:aD)) hM ⟨rfl,rfl,rfl,(dG hM VF),trivial⟩ rfl,?_⟩;cbv)|(refine⟨_,ay (enc:=(bu M r)) hI hM Wi (fun _=>rfl) rfl (fun _=>rfl),?_⟩;cbv)|apply And.intro);all_goals exact bw
             cbv;refine letE h fun WZ VS h=>⟨_,an hI hM VS,?_⟩;cbv;refine⟨?_,trivial⟩;refine⟨_,cq (enc:=ax) (x:=(I.wrap .i64 (I.sub WZ 1))) hM (ao _) rfl,?_⟩;cbv;refine⟨?_,trivial⟩;refine ah h fun abh Wh h=>⟨_,ay (enc:=ax) hI hM Wh (fun _=>rfl) rfl (fun _=>rfl),?_⟩;cbv;refine⟨?_,trivial⟩;cases h;first|exact Or.inl rfl|exact bw
           cbv;refine⟨_,rfl,?_⟩;cbv;refine lp h (fun _=>[]) (fun _=>[]) fun apv m10 XM st h=>?_;dsimp only[kB]at h;cbv;refine jR (oD hI (by decide)) ?_;cbv;cases h
          refine⟨?_,trivial⟩;refine ah h fun yT FN h=>⟨fun _=>rfl,(.sl r (M.map ax yT)),g,nx,fun ρ=>by cbv;exact us hc (mA hI hM FN),?_⟩;cbv;refine ah h fun y34 OU h=>⟨_,_,_,us hc (dI hI hM OU),?_⟩;cbv;refine si h (fun h=>?_) fun h=>?_
          ·as_aux_lemma=>
            cbv;refine RU h fun M5 To HJ wh Eg hj h=>?_;dsimp only at h;refine bk none [(11,(vb M5))] [(12916010,.box [(vs To),(vi HJ),(.sl p (M.map (bu M p) wh)),(vi Eg)])] g nx ?_ ?_
            ·replace h:=hj;cbv;refine⟨?_,trivial⟩;refine ah h fun AH Cn h=>⟨_,_,_,us hc (mK hI hM Cn),?_⟩;cbv;refine ah h fun Ol J8 h=>⟨_,aq hM J8 rfl,?_⟩;cbv;refine si h (fun h=>?_) fun h=>?_
             ·cbv;refine⟨?_,trivial⟩;cases h;first|exact Or.inl rfl|exact bw
             cbv;refine ah h fun x42 agQ h=>?_;refine ah h fun x43 Vq h=>?_;refine ah h fun LJ J7 h=>?_;apply Exists.intro;refine⟨?_,_,rfl,?_⟩
             ·cbv;(repeat' first|exact .inl rfl|exact trivial|(refine⟨_,aq hM agQ rfl,?_⟩;cbv)|(refine⟨_,aq hM Vq rfl,?_⟩;cbv)|(refine⟨_,aq hM J7 rfl,?_⟩;cbv)|apply And.intro);all_goals exact bw
             cbv;refine letE h fun MO Cr h=>⟨_,an hI hM Cr,?_⟩;cbv;refine lp h (fun R6=>[(42,(vi R6))]) (fun R6=>[]) fun Rm6 m6 vj R6 h=>?_;dsimp only[cC]at h;cbv;refine si h (fun h=>?_) fun h=>?_
             ·cbv;refine ah h fun Oj J6 h=>⟨_,aq hM J6 rfl,?_⟩;cbv;refine letE h fun N0 FW h=>⟨_,an hI hM FW,?_⟩;cbv;refine si h (fun h=>?_) fun h=>?_
              ·cbv;refine ah h fun y49 Ve h=>?_;apply Exists.intro;refine⟨?_,_,rfl,?_⟩
               ·cbv;(repeat' first|exact .inl rfl|exact trivial|(refine⟨_,_,_,us hc (qT hI hM Ve),?_⟩;cbv)|apply And.intro);all_goals exact bw
               cbv;refine⟨?_,trivial⟩;cases h;first|exact Or.inl rfl|exact bw
              cbv;exact b8 (vj _ _ h)
             cbv;refine⟨?_,trivial⟩;cases h;first|exact Or.inl rfl|exact bw
            clear hj;cbv;refine ah h fun Xf Kl h=>?_;refine ah h fun YW J5 h=>?_;refine ah h fun x59 SO h=>?_;refine ah h fun k60 Ww h=>?_;refine ah h fun x61 agM h=>?_;refine ah h fun x62 agL h=>?_;refine letE h fun PA FV h=>?_;apply Exists.intro;refine⟨?_,_,rfl,?_⟩
            ·cbv;(repeat' first|exact .inl rfl|exact trivial|((first|refine⟨_,⟨rfl,rfl,aL hI Kl⟩,?_⟩|refine⟨_,aL hI Kl,?_⟩);cbv)|(refine⟨_,_,rfl,bj hM J5,rfl,?_⟩;cbv)|(refine⟨_,aq hM SO rfl,?_⟩;cbv)|((first|refine⟨_,⟨rfl,rfl,aL hI Ww⟩,?_⟩|refine⟨_,aL hI Ww,?_⟩);cbv)|(refine⟨_,_,rfl,bj hM agM,rfl,?_⟩;cbv)|(refine⟨_,aq hM agL rfl,?_⟩;cbv)|(refine⟨_,an hI hM FV,?_⟩;cbv)|apply And.intro);all_goals exact bw
            cbv;refine letE h fun n64 ahl h=>⟨_,an hI hM ahl,?_⟩;cbv;refine lp h (fun(T7,T6)=>[(13,(vi T7)),(56,(vi T6))]) (fun _=>[]) fun Rm7 m7 zb st h=>?_;obtain⟨T7,T6⟩:=st;dsimp only[ig]at h;cbv;refine si h (fun h=>?_) fun h=>?_
            ·cbv;refine ah h fun x67 agK h=>⟨_,aq hM agK rfl,?_⟩;cbv;refine si h (fun h=>?_) fun h=>?_
             ·cbv;exact b8 (zb _ _ h)
             cbv;exact b8 (zb _ _ h)
            cbv;refine letE h fun n70 ahi h=>⟨_,an hI hM ahi,?_⟩;cbv;refine⟨_,xh (enc:=ax) (l:=[n70,T7,(I.wrap .i64 (I.sub (I.wrap .i64 (I.sub PA AG)) 1))]) hM ⟨⟨(ao _),rfl⟩,⟨(ao _),rfl⟩,⟨(ao _),rfl⟩,trivial⟩,?_⟩;cbv;refine ah h fun y71 agt h=>⟨_,fun hp=>us hc (dU hI hM (aE agt hp.1)),?_⟩;cbv;refine si h (fun h=>?_) fun h=>?_
            ·as_aux_lemma=>
              cbv;refine letE h fun n72 Mk h=>⟨_,an hI hM Mk,?_⟩;cbv;refine ah h fun W8 V7 h=>⟨_,_,eh (enc:=ax) hI hM V7 (by decide) rfl,?_⟩;cbv;refine letE h fun l74 SX h=>?_;refine letE h fun n75 ahh h=>⟨_,_,iK (enc:=ax) hI hM SX ahh rfl (fun _=>rfl) (fun _=>rfl),?_⟩;cbv;refine⟨_,an hI hM Mk,?_⟩;cbv;refine si h (fun h=>?_) fun h=>?_
              ·cbv;refine ah h fun l76 V6 h=>?_;apply Exists.intro;refine⟨?_,_,rfl,?_⟩
               ·cbv;(repeat' first|exact .inl rfl|exact trivial|(refine⟨_,cq (enc:=(bu M r)) (x:=(⟨gO.kind,gO.name,gO.num,[]⟩:aD)) hM ⟨rfl,rfl,rfl,(aK hM),trivial⟩ rfl,?_⟩;cbv)|(refine⟨_,ay (enc:=(bu M r)) hI hM V6 (fun _=>rfl) rfl (fun _=>rfl),?_⟩;cbv)|apply And.intro);all_goals exact bw
               cbv;refine letE h fun Y2 VJ h=>⟨_,an hI hM VJ,?_⟩;cbv;refine⟨?_,trivial⟩;refine⟨_,cq (enc:=ax) (x:=(I.wrap .i64 (I.sub Y2 1))) hM (ao _) rfl,?_⟩;cbv;refine⟨?_,trivial⟩;refine ah h fun KA Mn h=>⟨_,ay (enc:=ax) hI hM Mn (fun _=>rfl) rfl (fun _=>rfl),?_⟩;cbv;refine⟨?_,trivial⟩;cases h;first|exact Or.inl rfl|exact bw
              cbv;refine ah h fun u79 agX h=>?_;refine ah h fun l80 ahE h=>?_;apply Exists.intro;refine⟨?_,_,rfl,?_⟩
              ·cbv;(repeat' first|exact .inl rfl|exact trivial|(refine⟨_,cq (enc:=(bu M r)) (x:=(⟨gO.kind,gO.name,gO.num,l74⟩:aD)) hM ⟨rfl,rfl,rfl,(dG hM agX),trivial⟩ rfl,?_⟩;cbv)|(refine⟨_,ay (enc:=(bu M r)) hI hM ahE (fun _=>rfl) rfl (fun _=>rfl),?_⟩;cbv)|apply And.intro);all_goals exact bw
              cbv;refine letE h fun n81 ahg h=>⟨_,an hI hM ahg,?_⟩;cbv;refine⟨?_,trivial⟩;refine⟨_,cq (enc:=ax) (x:=(I.wrap .i64 (I.sub n81 1))) hM (ao _) rfl,?_⟩;cbv;refine⟨?_,trivial⟩;refine ah h fun l82 ahD h=>⟨_,ay (enc:=ax) hI hM ahD (fun _=>rfl) rfl (fun _=>rfl),?_⟩;cbv;refine⟨?_,trivial⟩;cases h;first|exact Or.inl rfl|exact bw
            cbv;refine letE h fun Y1 Kb h=>⟨_,an hI hM Kb,?_⟩;cbv;refine lp h (fun(BZ,DL,Lx)=>[(90,(vi Lx))]) (fun(BZ,DL,Lx)=>[(12915008,.box [(vs eT.head),(vi eT.aM),(.gs r (.c 12915008 2) (M.map (bu M r) BZ)),(vi 0),(.gs r (.c 12915008 4) (M.map ax v9)),(.fn (.func 73) [(.aX q [(.sl p (M.map (aA M p) bn.af))] 0)])]),(12916086,.box [(vs ⟨#[]⟩),(vi 0),(.v gQ),(vi 0),(.gs r (.c 12916086 4) (M.map ax DL)),(.v .nilFunc)])]) fun Rm8 m8 GG st h=>?_;obtain⟨BZ,DL,Lx⟩:=st;dsimp only[ic]at h;cbv;refine si h (fun h=>?_) fun h=>?_
            ·as_aux_lemma=>
              cbv;refine ah h fun D4 agG h=>⟨_,aq hM agG rfl,?_⟩;cbv;refine si h (fun h=>?_) fun h=>?_
              ·cbv;refine ah h fun YV Vm h=>⟨_,aq hM Vm rfl,?_⟩;cbv;refine⟨_,cq (enc:=ax) (x:=YV) hM (ao _) rfl,?_⟩;cbv;refine ah h fun l89 ahA h=>⟨_,ay (enc:=ax) hI hM ahA (fun _=>rfl) rfl (fun _=>rfl),?_⟩;cbv;exact b8 (GG _ _ h)
              cbv;refine si h (fun h=>?_) fun h=>?_
              ·cbv;refine ah h fun x90 agF h=>?_;refine ah h fun x91 agE h=>?_;refine ah h fun x92 agD h=>?_;apply Exists.intro;refine⟨?_,_,rfl,?_⟩
               ·cbv;(repeat' first|exact .inl rfl|exact trivial|(refine⟨_,aq hM agF rfl,?_⟩;cbv)|(refine⟨_,aq hM agE rfl,?_⟩;cbv)|(refine⟨_,aq hM agD rfl,?_⟩;cbv)|apply And.intro);all_goals exact bw
               cbv;refine⟨_,cq (enc:=ax) (x:=x92) hM (ao _) rfl,?_⟩;cbv;refine ah h fun l93 ahx h=>⟨_,ay (enc:=ax) hI hM ahx (fun _=>rfl) rfl (fun _=>rfl),?_⟩;cbv;exact b8 (GG _ _ h)
              cbv;refine lC h fun j94 j95 hj h=>?_;dsimp only at h;refine bk none [(19,(vi j94)),(18,.any)] [(12915008,.box [(vs eT.head),(vi eT.aM),(.gs r (.c 12915008 2) (M.map (bu M r) j95)),(vi 0),(.gs r (.c 12915008 4) (M.map ax v9)),(.fn (.func 73) [(.aX q [(.sl p (M.map (aA M p) bn.af))] 0)])])] g nx ?_ ?_
              ·replace h:=hj;cbv;refine⟨?_,trivial⟩;refine ah h fun y96 agr h=>⟨fun _=>rfl,(.sl r (M.map ax y96)),g,nx,fun ρ=>by cbv;exact us hc (eL hI hM agr),?_⟩;cbv;refine⟨?_,trivial⟩;refine letE h fun n97 VI h=>⟨_,an hI hM VI,?_⟩;cbv;refine ah h fun l98 ahv h=>⟨_,_,eh (enc:=ax) hI hM ahv (by decide) rfl,?_⟩;cbv;refine letE h fun l99 ahu h=>?_;refine letE h fun am4 V4 h=>⟨_,_,iK (enc:=ax) hI hM ahu V4 rfl (fun _=>rfl) (fun _=>rfl),?_⟩;cbv;refine⟨_,an hI hM VI,?_⟩;cbv;refine si h (fun h=>?_) fun h=>?_
               ·cbv;refine ah h fun abl Wu h=>?_;apply Exists.intro;refine⟨?_,_,rfl,?_⟩
                ·cbv;(repeat' first|exact .inl rfl|exact trivial|(refine⟨_,cq (enc:=(bu M r)) (x:=(⟨D4.kind,D4.name,D4.num,[]⟩:aD)) hM ⟨rfl,rfl,rfl,(aK hM),trivial⟩ rfl,?_⟩;cbv)|(refine⟨_,ay (enc:=(bu M r)) hI hM Wu (fun _=>rfl) rfl (fun _=>rfl),?_⟩;cbv)|apply And.intro);all_goals exact bw
                cbv;refine letE h fun ah7 V3 h=>⟨_,an hI hM V3,?_⟩;cbv;cases h;first|exact Or.inl rfl|exact bw
               cbv;refine ah h fun alT VH h=>?_;refine ah h fun abk Wt h=>?_;apply Exists.intro;refine⟨?_,_,rfl,?_⟩
               ·cbv;(repeat' first|exact .inl rfl|exact trivial|(refine⟨_,cq (enc:=(bu M r)) (x:=(⟨D4.kind,D4.name,D4.num,l99⟩:aD)) hM ⟨rfl,rfl,rfl,(dG hM VH),trivial⟩ rfl,?_⟩;cbv)|(refine⟨_,ay (enc:=(bu M r)) hI hM Wt (fun _=>rfl) rfl (fun _=>rfl),?_⟩;cbv)|apply And.intro);all_goals exact bw
               cbv;refine letE h fun Kx FY h=>⟨_,an hI hM FY,?_⟩;cbv;cases h;first|exact Or.inl rfl|exact bw
              clear hj;cbv;refine⟨_,cq (enc:=ax) (x:=j94) hM (ao _) rfl,?_⟩;cbv;refine ah h fun aij Ws h=>⟨_,ay (enc:=ax) hI hM Ws (fun _=>rfl) rfl (fun _=>rfl),?_⟩;cbv;exact b8 (GG _ _ h)
            cbv;refine ah h fun UC VA h=>?_;apply Exists.intro;refine⟨?_,_,rfl,?_⟩
            ·cbv;(repeat' first|exact .inl rfl|exact trivial|(refine⟨_,aq hM VA rfl,?_⟩;cbv)|apply And.intro);all_goals exact bw
            cbv;refine⟨?_,trivial⟩;refine⟨_,cq (enc:=ax) (x:=UC) hM (ao _) rfl,?_⟩;cbv;refine⟨?_,trivial⟩;refine ah h fun M1 F1 h=>⟨_,ay (enc:=ax) hI hM F1 (fun _=>rfl) rfl (fun _=>rfl),?_⟩;cbv;refine⟨?_,trivial⟩;cases h;first|exact Or.inl rfl|exact bw
          cbv;refine ah h fun air Mp h=>?_;refine ah h fun ae8 Vz h=>?_;refine ah h fun ae7 Vy h=>?_;refine ah h fun aiq Mo h=>?_;refine ah h fun ae6 Vx h=>?_;refine ah h fun ae5 Vw h=>?_;refine letE h fun W2 VY h=>?_;apply Exists.intro;refine⟨?_,_,rfl,?_⟩
          ·cbv;(repeat' first|exact .inl rfl|exact trivial|((first|refine⟨_,⟨rfl,rfl,aL hI Mp⟩,?_⟩|refine⟨_,aL hI Mp,?_⟩);cbv)|(refine⟨_,_,rfl,bj hM Vz,rfl,?_⟩;cbv)|(refine⟨_,aq hM Vy rfl,?_⟩;cbv)|((first|refine⟨_,⟨rfl,rfl,aL hI Mo⟩,?_⟩|refine⟨_,aL hI Mo,?_⟩);cbv)|(refine⟨_,_,rfl,bj hM Vx,rfl,?_⟩;cbv)|(refine⟨_,aq hM Vw rfl,?_⟩;cbv)|(refine⟨_,an hI hM VY,?_⟩;cbv)|apply And.intro);all_goals exact bw
          cbv;refine⟨_,rfl,?_⟩;cbv;refine lp h (fun _=>[]) (fun _=>[]) fun Rm9 m9 XL st h=>?_;dsimp only[ib]at h;cbv;refine jR (oD hI (by decide)) ?_;cbv;refine letE h fun W1 VX h=>⟨_,an hI hM VX,?_⟩;cbv;refine⟨_,xh (enc:=ax) (l:=[W1,0,(I.wrap .i64 (I.sub (I.wrap .i64 (I.sub W2 AG)) 1))]) hM ⟨⟨(ao _),rfl⟩,⟨(ao _),rfl⟩,⟨(ao _),rfl⟩,trivial⟩,?_⟩;cbv;refine ah h fun aeZ Vk h=>⟨_,fun hp=>us hc (dU hI hM (aE Vk hp.1)),?_⟩;cbv;refine si h (fun h=>?_) fun h=>?_
          ·as_aux_lemma=>
            cbv;refine letE h fun aa6 Ml h=>⟨_,an hI hM Ml,?_⟩;cbv;refine ah h fun Ti Wl h=>⟨_,_,eh (enc:=ax) hI hM Wl (by decide) rfl,?_⟩;cbv;refine letE h fun Th Wk h=>?_;refine letE h fun am2 VV h=>⟨_,_,iK (enc:=ax) hI hM Wk VV rfl (fun _=>rfl) (fun _=>rfl),?_⟩;cbv;refine⟨_,an hI hM Ml,?_⟩;cbv;refine si h (fun h=>?_) fun h=>?_
            ·cbv;refine ah h fun abi Wj h=>?_;apply Exists.intro;refine⟨?_,_,rfl,?_⟩
             ·cbv;(repeat' first|exact .inl rfl|exact trivial|(refine⟨_,cq (enc:=(bu M r)) (x:=(⟨gO.kind,gO.name,gO.num,[]⟩:aD)) hM ⟨rfl,rfl,rfl,(aK hM),trivial⟩ rfl,?_⟩;cbv)|(refine⟨_,ay (enc:=(bu M r)) hI hM Wj (fun _=>rfl) rfl (fun _=>rfl),?_⟩;cbv)|apply And.intro);all_goals exact bw
             cbv;refine letE h fun W0 VU h=>⟨_,an hI hM VU,?_⟩;cbv;refine⟨?_,trivial⟩;refine⟨_,cq (enc:=ax) (x:=(I.wrap .i64 (I.sub W0 1))) hM (ao _) rfl,?_⟩;cbv;refine⟨?_,trivial⟩;refine ah h fun Tg Iv h=>⟨_,ay (enc:=ax) hI hM Iv (fun _=>rfl) rfl (fun _=>rfl),?_⟩;cbv;refine⟨?_,trivial⟩;cases h;first|exact Or.inl rfl|exact bw
            cbv;refine ah h fun alR VF h=>?_;refine ah h fun Tf Wi h=>?_;apply Exists.intro;refine⟨?_,_,rfl,?_⟩
            ·cbv;(repeat' first|exact .inl rfl|exact trivial|(refine⟨_,cq (enc:=(bu M r)) (x:=(⟨gO.kind,gO.name,gO.num,Th⟩:aD)) hM ⟨rfl,rfl,rfl,(dG hM VF),trivial⟩ rfl,?_⟩;cbv)|(refine⟨_,ay (enc:=(bu M r)) hI hM Wi (fun _=>rfl) rfl (fun _=>rfl),?_⟩;cbv)|apply And.intro);all_goals exact bw
            cbv;refine letE h fun WZ VS h=>⟨_,an hI hM VS,?_⟩;cbv;refine⟨?_,trivial⟩;refine⟨_,cq (enc:=ax) (x:=(I.wrap .i64 (I.sub WZ 1))) hM (ao _) rfl,?_⟩;cbv;refine⟨?_,trivial⟩;refine ah h fun abh Wh h=>⟨_,ay (enc:=ax) hI hM Wh (fun _=>rfl) rfl (fun _=>rfl),?_⟩;cbv;refine⟨?_,trivial⟩;cases h;first|exact Or.inl rfl|exact bw
          cbv;refine⟨_,rfl,?_⟩;cbv;refine lp h (fun _=>[]) (fun _=>[]) fun apv m10 XM st h=>?_;dsimp only[kB]at h;cbv;refine jR (oD hI (by decide)) ?_;cbv;cases h
         clear hj;cbv;exact b8 (sV _ _ h)
       cbv;refine ah h fun ae3 amr h=>?_;apply Exists.intro;refine⟨?_,_,rfl,?_⟩
       ·cbv;(repeat' first|exact .inl rfl|exact trivial|(refine⟨_,aq hM amr rfl,?_⟩;cbv)|apply And.intro);all_goals exact bw
       cbv;refine ah h fun anr adS h=>?_
       (first|refine⟨_,⟨rfl,rfl,aL hI adS⟩,?_⟩|refine⟨_,aL hI adS,?_⟩)
       cbv;refine ah h fun alL amq h=>⟨_,_,rfl,bj hM amq,rfl,?_⟩;cbv;refine ah h fun aio amI h=>⟨_,cE hI hM amI,?_⟩;cbv;refine ah h fun Zp Vu h=>?_;refine ah h fun ani amB h=>?_;refine ah h fun anh adR h=>?_;apply Exists.intro;refine⟨?_,_,rfl,?_⟩
       ·cbv;(repeat' first|exact .inl rfl|exact trivial|(refine⟨_,_,_,⟨rfl,bj (enc:=(aA M r)) hM Vu,rfl,rfl⟩,?_⟩;cbv)|(refine⟨_,cq (enc:=(aB M r)) (x:=(⟨eT.head,eT.aM,re,ae3⟩:ag)) hM (ao _) rfl,?_⟩;cbv)|(refine⟨_,ay (enc:=(aB M r)) hI hM amB (fun _=>rfl) rfl (fun _=>rfl),?_⟩;cbv)|((first|refine⟨_,tQ (enc:=(aA M r)) hI hM Vu adR (show 2<3 from by decide) rfl,?_⟩|refine⟨rfl,rfl,rfl,_,tQ (enc:=(aA M r)) hI hM Vu adR (show 2<3 from by decide) rfl,?_⟩);cbv)|apply And.intro);all_goals exact bw
       cbv;(try(refine⟨rfl,?_⟩;cbv));refine nR hI ?_;cbv;exact b8 (sW _ _ h)
     cbv;exact b8 (kI _ _ h)
   cbv;(try(refine⟨rfl,?_⟩;cbv));refine ah h fun arh amx h=>?_;obtain rfl:=o5 h;cbv;(all_goals(repeat' apply And.intro));all_goals first|trivial|rfl|exact(aK hM)|exact(dG hM amx)
 cbv;cases h
end Ab
