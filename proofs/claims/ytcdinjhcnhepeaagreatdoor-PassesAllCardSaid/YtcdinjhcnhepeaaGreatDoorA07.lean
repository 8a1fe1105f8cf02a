/- PassesAll holds of all pairs of cores (no condition): a part of the proof: an abstract interpreter of the code that is proved sound, models of the functions, and laws of these models. -/
import Derived.Test.YtcdinjhcnhepeaaGreatDoorA02
import Derived.Test.YtcdinjhcnhepeaaGreatDoorA04
import Derived.Test.YtcdinjhcnhepeaaGreatDoorA04c
import Derived.Test.YtcdinjhcnhepeaaGreatDoorA03
set_option linter.unusedVariables false
set_option linter.unusedSimpArgs false
set_option linter.unusedSectionVars false
namespace Ab
open Go Go.Proofs.Tryz
set_option maxHeartbeats 100000000
set_option maxRecDepth 100000
variable{I:Pr}(hI:I=ak){M:Md}(hM:M= .ak){n nx r s p q u rl:Nat}{g:Nat→Option Ob}
 include hI hM
theorem ya{a0:ai}{bn:ai}{v:ai}(h:om I M n a0 bn=some v):
  cj 70 [(.agg (bd M p a0)),(.fn (.func 71) [(.aX q (bd M p bn) 0)])] (.agg (bd M r v)) g nx:=by
 refine Aq func70 c70 r UT Yh [5] 10 ntmps70 [.cell 4 24] hI (bF.cons (sB r) (bF.cons (Nx r) (bF.cons (Ny r) (bF.cons (wo r) (bF.cons (abW r) (bF.cons (wq r) (bF.cons (yO r) (vK PP im)))))))) 8 fun call hc=>?_;cbv;refine letE h fun l1 Kk h=>⟨_,⟨rfl,eR (enc:=ax) hI hM Kk rfl⟩,?_⟩;cbv;refine letE h fun n2 pf h=>⟨_,an hI hM pf,?_⟩;cbv;refine kU n (fun kS aZ=>?_);cbv;refine si h (fun h=>?_) fun h=>?_
 ·as_aux_lemma=>
   cbv;refine ah h fun x3 lG h=>⟨_,aq hM lG rfl,?_⟩;cbv;refine⟨_,RV (by rfl),?_⟩;cbv;refine ah h fun l4 NZ h=>⟨sg hI NZ,_,_,zT (enc:=(aA M r)) hI hM NZ (by have e0:=aK (enc:=(aB M r)) hM;simp only[aA,vi,vs,vb,cv,eJ,e0]),?_⟩;cbv;refine aZ _ (lpD h [50009] (fun(l5,z6)=>[(19,(vi z6)),(20,.any)]) (fun(l5,z6)=>[(50007,.box [(.jB (.s 50031) (M.ln l5))]),(50031,.ow (.sl 3) none (M.map (aA M r) l5))]) fun Dc m2 dm st h=>?_);obtain⟨l5,z6⟩:=st;dsimp only[cX]at h;cbv;refine si h (fun h=>?_) fun h=>?_
   ·cbv;refine ah h fun x7 zr h=>⟨_,aq hM zr rfl,?_⟩;cbv;refine⟨_,RV (by rfl),?_⟩;cbv;refine ah h fun l8 SW h=>?_
    (refine⟨_,_,F5 (enc:=(aA M r)) hI hM SW ?_,?_⟩;next=>have e0:=aK (enc:=(aB M r)) hM;simp only[aA,vi,vs,vb,cv,eJ,e0])
    cbv;exact b8 (dm _ _ h)
   cbv;intro l;cbv;refine letE h fun xa zS h=>⟨_,an hI hM zS,?_⟩;cbv;refine lp h (fun(ia,yY,eU)=>[(10,(vi eU))]) (fun(ia,yY,eU)=>[(5,.arr 1 (M.map ax ia)),(50031,.ow (.sl 3) none (M.map (aA M r) yY))]) fun QA m3 kI st h=>?_;obtain⟨ia,yY,eU⟩:=st;dsimp only[dP]at h;cbv;refine si h (fun h=>?_) fun h=>?_
   ·as_aux_lemma=>
     cbv;refine ah h fun AB D9 h=>⟨_,aq hM D9 rfl,?_⟩;cbv;refine letE h fun Gd FX h=>⟨_,an hI hM FX,?_⟩;cbv;refine lp h (fun(ua,rJ,fh)=>[(18,(vi fh))]) (fun(ua,rJ,fh)=>[(5,.arr 1 (M.map ax ua)),(50031,.ow (.sl 3) none (M.map (aA M r) rJ))]) fun YG m4 sW st h=>?_;obtain⟨ua,rJ,fh⟩:=st;dsimp only[dO]at h;cbv;refine si h (fun h=>?_) fun h=>?_
     ·as_aux_lemma=>
       cbv;refine ah h fun eT FR h=>⟨_,aq hM FR rfl,?_⟩;cbv;(try(refine⟨⟨rfl,rfl,rfl⟩,?_⟩;cbv));refine letE h fun xP Ki h=>⟨_,⟨rfl,eR (enc:=ax) hI hM Ki rfl⟩,?_⟩;cbv;refine ah h fun Zs AX h=>?_
       (first|refine⟨_,⟨aQ hI hM AX,tP (enc:=ax) (l:=[eU,fh]) hI hM rfl⟩,?_⟩|refine⟨_,⟨rfl,aQ hI hM AX,rfl,rfl,tP (enc:=ax) (l:=[eU,fh]) hI hM rfl⟩,?_⟩)
       cbv;(try(refine⟨rfl,?_⟩;cbv));refine ah h fun Sh sT h=>?_
       (first|refine⟨⟨rfl,aQ hI hM sT,rfl⟩,?_⟩|refine⟨⟨aQ hI hM sT,trivial⟩,?_⟩|refine⟨aQ hI hM sT,?_⟩)
       cbv;(try(refine⟨⟨by decide,by decide⟩,?_⟩;cbv));refine ah h fun YY vR h=>?_
       (first|refine⟨⟨rfl,aQ hI hM vR,rfl⟩,?_⟩|refine⟨⟨aQ hI hM vR,trivial⟩,?_⟩|refine⟨aQ hI hM vR,?_⟩)
       cbv;refine ah h fun UO Cp h=>?_
       (first|refine⟨⟨rfl,rfl,rfl,aQ hI hM Cp,rfl,(by have hq:=cg (enc:=ax) hM (fun _=>rfl) ([eU,fh]);rw[cR.eq_def]at hq;exact hq)⟩,?_⟩|refine⟨⟨aQ hI hM Cp,(by have hq:=cg (enc:=ax) hM (fun _=>rfl) ([eU,fh]);rw[cR.eq_def]at hq;exact hq)⟩,?_⟩)
       cbv;apply Exists.intro;refine⟨?_,_,rfl,?_⟩
       ·cbv;(repeat' first|exact .inl rfl|exact trivial|apply And.intro);all_goals exact bw
       cbv;refine letE h fun n26 ahs h=>⟨_,an hI hM ahs,?_⟩;cbv;refine lp h (fun(re,v9,AG)=>[(56,(vi AG))]) (fun(re,v9,AG)=>[(12915008,.box [(vs eT.head),(vi eT.aM),(.gs r (.c 12915008 2) (M.map (bu M r) re)),(vi 0),(.gs r (.c 12915008 4) (M.map ax v9)),(.fn (.func 71) [(.aX q [(.sl p (M.map (aA M p) bn.af))] 0)])])]) fun YF m5 sV st h=>?_;obtain⟨re,v9,AG⟩:=st;dsimp only[cW]at h;cbv;refine si h (fun h=>?_) fun h=>?_
       ·as_aux_lemma=>
         cbv;refine ah h fun gO Vs h=>⟨_,aq hM Vs rfl,?_⟩;cbv;refine lC h fun Xi j32 hj h=>?_;dsimp only at h;refine bk none [(13,.any),(14,.any)] [(12915008,.box [(vs eT.head),(vi eT.aM),(.gs r (.c 12915008 2) (M.map (bu M r) Xi)),(vi 0),(.gs r (.c 12915008 4) (M.map ax j32)),(.fn (.func 71) [(.aX q [(.sl p (M.map (aA M p) bn.af))] 0)])])] g nx ?_ ?_
         ·replace h:=hj;cbv;refine⟨?_,?_⟩
          ·refine⟨?_,trivial⟩;refine ah h fun yT FN h=>⟨fun _=>rfl,(.sl r (M.map ax yT)),g,nx,fun ρ=>by cbv;exact us hc (ny hI hM FN),?_⟩;cbv;refine ah h fun y34 OU h=>⟨_,_,_,us hc (dI hI hM OU),?_⟩;cbv;refine si h (fun h=>?_) fun h=>?_
           ·as_aux_lemma=>
             cbv;refine RU h fun M5 To HJ wh Eg hj h=>?_;dsimp only at h;refine bk none [(11,(vb M5))] [(12916010,.box [(vs To),(vi HJ),(.sl p (M.map (bu M p) wh)),(vi Eg)])] g nx ?_ ?_
             ·replace h:=hj;cbv;refine⟨?_,trivial⟩;refine ah h fun AH Cn h=>⟨_,_,_,us hc (mK hI hM Cn),?_⟩;cbv;refine ah h fun Ol J8 h=>?_;refine ah h fun y42 Vf h=>?_;apply Exists.intro;refine⟨?_,_,rfl,?_⟩
              ·cbv;(repeat' first|exact .inl rfl|exact trivial|(refine⟨_,aq hM J8 rfl,?_⟩;cbv)|(refine⟨_,_,_,us hc (qB hI hM Vf),?_⟩;cbv)|apply And.intro);all_goals exact bw
              cbv;refine⟨?_,trivial⟩;cases h;first|exact Or.inl rfl|exact bw
             clear hj;cbv;refine ah h fun k43 Wx h=>?_;refine ah h fun LJ J7 h=>?_;refine ah h fun x45 agP h=>?_;refine ah h fun k46 Pp h=>?_;refine ah h fun Oj J6 h=>?_;refine ah h fun x48 OZ h=>?_;refine letE h fun S7 O8 h=>?_;apply Exists.intro;refine⟨?_,_,rfl,?_⟩
             ·cbv;(repeat' first|exact .inl rfl|exact trivial|((first|refine⟨_,⟨rfl,rfl,aL hI Wx⟩,?_⟩|refine⟨_,aL hI Wx,?_⟩);cbv)|(refine⟨_,_,rfl,bj hM J7,rfl,?_⟩;cbv)|(refine⟨_,aq hM agP rfl,?_⟩;cbv)|((first|refine⟨_,⟨rfl,rfl,aL hI Pp⟩,?_⟩|refine⟨_,aL hI Pp,?_⟩);cbv)|(refine⟨_,_,rfl,bj hM J6,rfl,?_⟩;cbv)|(refine⟨_,aq hM OZ rfl,?_⟩;cbv)|(refine⟨_,an hI hM O8,?_⟩;cbv)|apply And.intro);all_goals exact bw
             cbv;refine letE h fun n50 O7 h=>⟨_,an hI hM O7,?_⟩;cbv;refine lp h (fun(Ut,T8)=>[(13,(vi Ut)),(56,(vi T8))]) (fun _=>[]) fun Rm6 m6 vj st h=>?_;obtain⟨Ut,T8⟩:=st;dsimp only[ik]at h;cbv;refine si h (fun h=>?_) fun h=>?_
             ·cbv;refine ah h fun x53 agO h=>⟨_,aq hM agO rfl,?_⟩;cbv;refine si h (fun h=>?_) fun h=>?_
              ·cbv;exact b8 (vj _ _ h)
              cbv;exact b8 (vj _ _ h)
             cbv;refine letE h fun n56 O6 h=>⟨_,an hI hM O6,?_⟩;cbv;refine⟨_,xh (enc:=ax) (l:=[n56,Ut,(I.wrap .i64 (I.sub (I.wrap .i64 (I.sub S7 AG)) 1))]) hM ⟨⟨(ao _),rfl⟩,⟨(ao _),rfl⟩,⟨(ao _),rfl⟩,trivial⟩,?_⟩;cbv;refine ah h fun y57 agu h=>⟨_,fun hp=>us hc (dU hI hM (aE agu hp.1)),?_⟩;cbv;refine si h (fun h=>?_) fun h=>?_
             ·as_aux_lemma=>
               cbv;refine letE h fun WW Cq h=>⟨_,an hI hM Cq,?_⟩;cbv;refine ah h fun MZ F0 h=>⟨_,_,eh (enc:=ax) hI hM F0 (by decide) rfl,?_⟩;cbv;refine letE h fun Rn HC h=>?_;refine letE h fun n61 Kc h=>⟨_,_,iK (enc:=ax) hI hM HC Kc rfl (fun _=>rfl) (fun _=>rfl),?_⟩;cbv;refine⟨_,an hI hM Cq,?_⟩;cbv;refine si h (fun h=>?_) fun h=>?_
               ·cbv;refine ah h fun PK FZ h=>?_;apply Exists.intro;refine⟨?_,_,rfl,?_⟩
                ·cbv;(repeat' first|exact .inl rfl|exact trivial|(refine⟨_,cq (enc:=(bu M r)) (x:=(⟨gO.kind,gO.name,gO.num,[]⟩:aD)) hM ⟨rfl,rfl,rfl,(aK hM),trivial⟩ rfl,?_⟩;cbv)|(refine⟨_,ay (enc:=(bu M r)) hI hM FZ (fun _=>rfl) rfl (fun _=>rfl),?_⟩;cbv)|apply And.intro);all_goals exact bw
                cbv;refine letE h fun PA FV h=>⟨_,an hI hM FV,?_⟩;cbv;refine⟨?_,trivial⟩;refine⟨_,cq (enc:=ax) (x:=(I.wrap .i64 (I.sub PA 1))) hM (ao _) rfl,?_⟩;cbv;refine⟨?_,trivial⟩;refine ah h fun Tc Kg h=>⟨_,ay (enc:=ax) hI hM Kg (fun _=>rfl) rfl (fun _=>rfl),?_⟩;cbv;refine⟨?_,trivial⟩;cases h;first|exact Or.inl rfl|exact bw
               cbv;refine ah h fun u65 agY h=>?_;refine ah h fun N1 Kf h=>?_;apply Exists.intro;refine⟨?_,_,rfl,?_⟩
               ·cbv;(repeat' first|exact .inl rfl|exact trivial|(refine⟨_,cq (enc:=(bu M r)) (x:=(⟨gO.kind,gO.name,gO.num,Rn⟩:aD)) hM ⟨rfl,rfl,rfl,(dG hM agY),trivial⟩ rfl,?_⟩;cbv)|(refine⟨_,ay (enc:=(bu M r)) hI hM Kf (fun _=>rfl) rfl (fun _=>rfl),?_⟩;cbv)|apply And.intro);all_goals exact bw
               cbv;refine letE h fun n67 ahk h=>⟨_,an hI hM ahk,?_⟩;cbv;refine⟨?_,trivial⟩;refine⟨_,cq (enc:=ax) (x:=(I.wrap .i64 (I.sub n67 1))) hM (ao _) rfl,?_⟩;cbv;refine⟨?_,trivial⟩;refine ah h fun l68 ahJ h=>⟨_,ay (enc:=ax) hI hM ahJ (fun _=>rfl) rfl (fun _=>rfl),?_⟩;cbv;refine⟨?_,trivial⟩;cases h;first|exact Or.inl rfl|exact bw
             cbv;refine letE h fun n69 ahj h=>⟨_,an hI hM ahj,?_⟩;cbv;refine lp h (fun(PJ,KB,QI)=>[(90,(vi QI))]) (fun(PJ,KB,QI)=>[(12915008,.box [(vs eT.head),(vi eT.aM),(.gs r (.c 12915008 2) (M.map (bu M r) PJ)),(vi 0),(.gs r (.c 12915008 4) (M.map ax v9)),(.fn (.func 71) [(.aX q [(.sl p (M.map (aA M p) bn.af))] 0)])]),(12916086,.box [(vs ⟨#[]⟩),(vi 0),(.v gQ),(vi 0),(.gs r (.c 12916086 4) (M.map ax KB)),(.v .nilFunc)])]) fun Rm7 m7 zb st h=>?_;obtain⟨PJ,KB,QI⟩:=st;dsimp only[cV]at h;cbv;refine si h (fun h=>?_) fun h=>?_
             ·as_aux_lemma=>
               cbv;refine ah h fun D5 agJ h=>⟨_,aq hM agJ rfl,?_⟩;cbv;refine si h (fun h=>?_) fun h=>?_
               ·cbv;refine ah h fun x74 Vn h=>⟨_,aq hM Vn rfl,?_⟩;cbv;refine⟨_,cq (enc:=ax) (x:=x74) hM (ao _) rfl,?_⟩;cbv;refine ah h fun l75 ahH h=>⟨_,ay (enc:=ax) hI hM ahH (fun _=>rfl) rfl (fun _=>rfl),?_⟩;cbv;exact b8 (zb _ _ h)
               cbv;refine si h (fun h=>?_) fun h=>?_
               ·cbv;refine ah h fun x76 OX h=>?_;refine ah h fun x77 agI h=>?_;refine ah h fun x78 agH h=>?_;apply Exists.intro;refine⟨?_,_,rfl,?_⟩
                ·cbv;(repeat' first|exact .inl rfl|exact trivial|(refine⟨_,aq hM OX rfl,?_⟩;cbv)|(refine⟨_,aq hM agI rfl,?_⟩;cbv)|(refine⟨_,aq hM agH rfl,?_⟩;cbv)|apply And.intro);all_goals exact bw
                cbv;refine⟨_,cq (enc:=ax) (x:=x78) hM (ao _) rfl,?_⟩;cbv;refine ah h fun l79 ahF h=>⟨_,ay (enc:=ax) hI hM ahF (fun _=>rfl) rfl (fun _=>rfl),?_⟩;cbv;exact b8 (zb _ _ h)
               cbv;refine lC h fun j80 j81 hj h=>?_;dsimp only at h;refine bk none [(19,(vi j80)),(18,.any)] [(12915008,.box [(vs eT.head),(vi eT.aM),(.gs r (.c 12915008 2) (M.map (bu M r) j81)),(vi 0),(.gs r (.c 12915008 4) (M.map ax v9)),(.fn (.func 71) [(.aX q [(.sl p (M.map (aA M p) bn.af))] 0)])])] g nx ?_ ?_
               ·replace h:=hj;cbv;refine⟨?_,trivial⟩;refine ah h fun y82 ags h=>⟨fun _=>rfl,(.sl r (M.map ax y82)),g,nx,fun ρ=>by cbv;exact us hc (eL hI hM ags),?_⟩;cbv;refine⟨?_,trivial⟩;refine letE h fun Y1 Kb h=>⟨_,an hI hM Kb,?_⟩;cbv;refine ah h fun BZ V5 h=>⟨_,_,eh (enc:=ax) hI hM V5 (by decide) rfl,?_⟩;cbv;refine letE h fun DL ahC h=>?_;refine letE h fun n86 ahf h=>⟨_,_,iK (enc:=ax) hI hM ahC ahf rfl (fun _=>rfl) (fun _=>rfl),?_⟩;cbv;refine⟨_,an hI hM Kb,?_⟩;cbv;refine si h (fun h=>?_) fun h=>?_
                ·cbv;refine ah h fun l87 ahB h=>?_;apply Exists.intro;refine⟨?_,_,rfl,?_⟩
                 ·cbv;(repeat' first|exact .inl rfl|exact trivial|(refine⟨_,cq (enc:=(bu M r)) (x:=(⟨D5.kind,D5.name,D5.num,[]⟩:aD)) hM ⟨rfl,rfl,rfl,(aK hM),trivial⟩ rfl,?_⟩;cbv)|(refine⟨_,ay (enc:=(bu M r)) hI hM ahB (fun _=>rfl) rfl (fun _=>rfl),?_⟩;cbv)|apply And.intro);all_goals exact bw
                 cbv;refine letE h fun n88 ahe h=>⟨_,an hI hM ahe,?_⟩;cbv;cases h;first|exact Or.inl rfl|exact bw
                cbv;refine ah h fun u89 agW h=>?_;refine ah h fun l90 ahz h=>?_;apply Exists.intro;refine⟨?_,_,rfl,?_⟩
                ·cbv;(repeat' first|exact .inl rfl|exact trivial|(refine⟨_,cq (enc:=(bu M r)) (x:=(⟨D5.kind,D5.name,D5.num,DL⟩:aD)) hM ⟨rfl,rfl,rfl,(dG hM agW),trivial⟩ rfl,?_⟩;cbv)|(refine⟨_,ay (enc:=(bu M r)) hI hM ahz (fun _=>rfl) rfl (fun _=>rfl),?_⟩;cbv)|apply And.intro);all_goals exact bw
                cbv;refine letE h fun n91 ahc h=>⟨_,an hI hM ahc,?_⟩;cbv;cases h;first|exact Or.inl rfl|exact bw
               clear hj;cbv;refine⟨_,cq (enc:=ax) (x:=j80) hM (ao _) rfl,?_⟩;cbv;refine ah h fun l92 ahy h=>⟨_,ay (enc:=ax) hI hM ahy (fun _=>rfl) rfl (fun _=>rfl),?_⟩;cbv;exact b8 (zb _ _ h)
             cbv;refine ah h fun x96 agC h=>?_;apply Exists.intro;refine⟨?_,_,rfl,?_⟩
             ·cbv;(repeat' first|exact .inl rfl|exact trivial|(refine⟨_,aq hM agC rfl,?_⟩;cbv)|apply And.intro);all_goals exact bw
             cbv;refine⟨?_,trivial⟩;refine⟨_,cq (enc:=ax) (x:=x96) hM (ao _) rfl,?_⟩;cbv;refine⟨?_,trivial⟩;refine ah h fun l97 ahw h=>⟨_,ay (enc:=ax) hI hM ahw (fun _=>rfl) rfl (fun _=>rfl),?_⟩;cbv;refine⟨?_,trivial⟩;cases h;first|exact Or.inl rfl|exact bw
           cbv;refine ah h fun k98 Wv h=>?_;refine ah h fun x99 agB h=>?_;refine ah h fun afb VD h=>?_;refine ah h fun ais Mq h=>?_;refine ah h fun afa VC h=>?_;refine ah h fun ae9 VB h=>?_;refine letE h fun W5 V2 h=>?_;apply Exists.intro;refine⟨?_,_,rfl,?_⟩
           ·cbv;(repeat' first|exact .inl rfl|exact trivial|((first|refine⟨_,⟨rfl,rfl,aL hI Wv⟩,?_⟩|refine⟨_,aL hI Wv,?_⟩);cbv)|(refine⟨_,_,rfl,bj hM agB,rfl,?_⟩;cbv)|(refine⟨_,aq hM VD rfl,?_⟩;cbv)|((first|refine⟨_,⟨rfl,rfl,aL hI Mq⟩,?_⟩|refine⟨_,aL hI Mq,?_⟩);cbv)|(refine⟨_,_,rfl,bj hM VC,rfl,?_⟩;cbv)|(refine⟨_,aq hM VB rfl,?_⟩;cbv)|(refine⟨_,an hI hM V2,?_⟩;cbv)|apply And.intro);all_goals exact bw
           cbv;refine⟨_,rfl,?_⟩;cbv;refine lp h (fun _=>[]) (fun _=>[]) fun Rm8 m8 GG st h=>?_;dsimp only[ij]at h;cbv;refine jR (oD hI (by decide)) ?_;cbv;refine letE h fun Kx FY h=>⟨_,an hI hM FY,?_⟩;cbv;refine⟨_,xh (enc:=ax) (l:=[Kx,0,(I.wrap .i64 (I.sub (I.wrap .i64 (I.sub W5 AG)) 1))]) hM ⟨⟨(ao _),rfl⟩,⟨(ao _),rfl⟩,⟨(ao _),rfl⟩,trivial⟩,?_⟩;cbv;refine ah h fun ae0 Vl h=>⟨_,fun hp=>us hc (dU hI hM (aE Vl hp.1)),?_⟩;cbv;refine si h (fun h=>?_) fun h=>?_
           ·as_aux_lemma=>
             cbv;refine letE h fun aa7 Mm h=>⟨_,an hI hM Mm,?_⟩;cbv;refine ah h fun M3 Wr h=>⟨_,_,eh (enc:=ax) hI hM Wr (by decide) rfl,?_⟩;cbv;refine letE h fun Tj Wq h=>?_;refine letE h fun am3 V1 h=>⟨_,_,iK (enc:=ax) hI hM Wq V1 rfl (fun _=>rfl) (fun _=>rfl),?_⟩;cbv;refine⟨_,an hI hM Mm,?_⟩;cbv;refine si h (fun h=>?_) fun h=>?_
             ·cbv;refine ah h fun M1 F1 h=>?_;apply Exists.intro;refine⟨?_,_,rfl,?_⟩
              ·cbv;(repeat' first|exact .inl rfl|exact trivial|(refine⟨_,cq (enc:=(bu M r)) (x:=(⟨gO.kind,gO.name,gO.num,[]⟩:aD)) hM ⟨rfl,rfl,rfl,(aK hM),trivial⟩ rfl,?_⟩;cbv)|(refine⟨_,ay (enc:=(bu M r)) hI hM F1 (fun _=>rfl) rfl (fun _=>rfl),?_⟩;cbv)|apply And.intro);all_goals exact bw
              cbv;refine letE h fun W4 V0 h=>⟨_,an hI hM V0,?_⟩;cbv;refine⟨?_,trivial⟩;refine⟨_,cq (enc:=ax) (x:=(I.wrap .i64 (I.sub W4 1))) hM (ao _) rfl,?_⟩;cbv;refine⟨?_,trivial⟩;refine ah h fun aii Wp h=>⟨_,ay (enc:=ax) hI hM Wp (fun _=>rfl) rfl (fun _=>rfl),?_⟩;cbv;refine⟨?_,trivial⟩;cases h;first|exact Or.inl rfl|exact bw
             cbv;refine ah h fun alS VG h=>?_;refine ah h fun abj Wo h=>?_;apply Exists.intro;refine⟨?_,_,rfl,?_⟩
             ·cbv;(repeat' first|exact .inl rfl|exact trivial|(refine⟨_,cq (enc:=(bu M r)) (x:=(⟨gO.kind,gO.name,gO.num,Tj⟩:aD)) hM ⟨rfl,rfl,rfl,(dG hM VG),trivial⟩ rfl,?_⟩;cbv)|(refine⟨_,ay (enc:=(bu M r)) hI hM Wo (fun _=>rfl) rfl (fun _=>rfl),?_⟩;cbv)|apply And.intro);all_goals exact bw
             cbv;refine letE h fun W3 VZ h=>⟨_,an hI hM VZ,?_⟩;cbv;refine⟨?_,trivial⟩;refine⟨_,cq (enc:=ax) (x:=(I.wrap .i64 (I.sub W3 1))) hM (ao _) rfl,?_⟩;cbv;refine⟨?_,trivial⟩;refine ah h fun aih Wn h=>⟨_,ay (enc:=ax) hI hM Wn (fun _=>rfl) rfl (fun _=>rfl),?_⟩;cbv;refine⟨?_,trivial⟩;cases h;first|exact Or.inl rfl|exact bw
           cbv;refine⟨_,rfl,?_⟩;cbv;refine lp h (fun _=>[]) (fun _=>[]) fun Rm9 m9 XL st h=>?_;dsimp only[lH]at h;cbv;refine jR (oD hI (by decide)) ?_;cbv;cases h
          refine⟨?_,trivial⟩;refine ah h fun yT FN h=>⟨fun _=>rfl,(.sl r (M.map ax yT)),g,nx,fun ρ=>by cbv;exact us hc (ny hI hM FN),?_⟩;cbv;refine ah h fun y34 OU h=>⟨_,_,_,us hc (dI hI hM OU),?_⟩;cbv;refine si h (fun h=>?_) fun h=>?_
          ·as_aux_lemma=>
            cbv;refine RU h fun M5 To HJ wh Eg hj h=>?_;dsimp only at h;refine bk none [(11,(vb M5))] [(12916010,.box [(vs To),(vi HJ),(.sl p (M.map (bu M p) wh)),(vi Eg)])] g nx ?_ ?_
            ·replace h:=hj;cbv;refine⟨?_,trivial⟩;refine ah h fun AH Cn h=>⟨_,_,_,us hc (mK hI hM Cn),?_⟩;cbv;refine ah h fun Ol J8 h=>?_;refine ah h fun y42 Vf h=>?_;apply Exists.intro;refine⟨?_,_,rfl,?_⟩
             ·cbv;(repeat' first|exact .inl rfl|exact trivial|(refine⟨_,aq hM J8 rfl,?_⟩;cbv)|(refine⟨_,_,_,us hc (qB hI hM Vf),?_⟩;cbv)|apply And.intro);all_goals exact bw
             cbv;refine⟨?_,trivial⟩;cases h;first|exact Or.inl rfl|exact bw
            clear hj;cbv;refine ah h fun k43 Wx h=>?_;refine ah h fun LJ J7 h=>?_;refine ah h fun x45 agP h=>?_;refine ah h fun k46 Pp h=>?_;refine ah h fun Oj J6 h=>?_;refine ah h fun x48 OZ h=>?_;refine letE h fun S7 O8 h=>?_;apply Exists.intro;refine⟨?_,_,rfl,?_⟩
            ·cbv;(repeat' first|exact .inl rfl|exact trivial|((first|refine⟨_,⟨rfl,rfl,aL hI Wx⟩,?_⟩|refine⟨_,aL hI Wx,?_⟩);cbv)|(refine⟨_,_,rfl,bj hM J7,rfl,?_⟩;cbv)|(refine⟨_,aq hM agP rfl,?_⟩;cbv)|((first|refine⟨_,⟨rfl,rfl,aL hI Pp⟩,?_⟩|refine⟨_,aL hI Pp,?_⟩);cbv)|(refine⟨_,_,rfl,bj hM J6,rfl,?_⟩;cbv)|(refine⟨_,aq hM OZ rfl,?_⟩;cbv)|(refine⟨_,an hI hM O8,?_⟩;cbv)|apply And.intro);all_goals exact bw
            cbv;refine letE h fun n50 O7 h=>⟨_,an hI hM O7,?_⟩;cbv;refine lp h (fun(Ut,T8)=>[(13,(vi Ut)),(56,(vi T8))]) (fun _=>[]) fun Rm6 m6 vj st h=>?_;obtain⟨Ut,T8⟩:=st;dsimp only[ik]at h;cbv;refine si h (fun h=>?_) fun h=>?_
            ·cbv;refine ah h fun x53 agO h=>⟨_,aq hM agO rfl,?_⟩;cbv;refine si h (fun h=>?_) fun h=>?_
             ·cbv;exact b8 (vj _ _ h)
             cbv;exact b8 (vj _ _ h)
            cbv;refine letE h fun n56 O6 h=>⟨_,an hI hM O6,?_⟩;cbv;refine⟨_,xh (enc:=ax) (l:=[n56,Ut,(I.wrap .i64 (I.sub (I.wrap .i64 (I.sub S7 AG)) 1))]) hM ⟨⟨(ao _),rfl⟩,⟨(ao _),rfl⟩,⟨(ao _),rfl⟩,trivial⟩,?_⟩;cbv;refine ah h fun y57 agu h=>⟨_,fun hp=>us hc (dU hI hM (aE agu hp.1)),?_⟩;cbv;refine si h (fun h=>?_) fun h=>?_
            ·as_aux_lemma=>
              cbv;refine letE h fun WW Cq h=>⟨_,an hI hM Cq,?_⟩;cbv;refine ah h fun MZ F0 h=>⟨_,_,eh (enc:=ax) hI hM F0 (by decide) rfl,?_⟩;cbv;refine letE h fun Rn HC h=>?_;refine letE h fun n61 Kc h=>⟨_,_,iK (enc:=ax) hI hM HC Kc rfl (fun _=>rfl) (fun _=>rfl),?_⟩;cbv;refine⟨_,an hI hM Cq,?_⟩;cbv;refine si h (fun h=>?_) fun h=>?_
              ·cbv;refine ah h fun PK FZ h=>?_;apply Exists.intro;refine⟨?_,_,rfl,?_⟩
               ·cbv;(repeat' first|exact .inl rfl|exact trivial|(refine⟨_,cq (enc:=(bu M r)) (x:=(⟨gO.kind,gO.name,gO.num,[]⟩:aD)) hM ⟨rfl,rfl,rfl,(aK hM),trivial⟩ rfl,?_⟩;cbv)|(refine⟨_,ay (enc:=(bu M r)) hI hM FZ (fun _=>rfl) rfl (fun _=>rfl),?_⟩;cbv)|apply And.intro);all_goals exact bw
               cbv;refine letE h fun PA FV h=>⟨_,an hI hM FV,?_⟩;cbv;refine⟨?_,trivial⟩;refine⟨_,cq (enc:=ax) (x:=(I.wrap .i64 (I.sub PA 1))) hM (ao _) rfl,?_⟩;cbv;refine⟨?_,trivial⟩;refine ah h fun Tc Kg h=>⟨_,ay (enc:=ax) hI hM Kg (fun _=>rfl) rfl (fun _=>rfl),?_⟩;cbv;refine⟨?_,trivial⟩;cases h;first|exact Or.inl rfl|exact bw
              cbv;refine ah h fun u65 agY h=>?_;refine ah h fun N1 Kf h=>?_;apply Exists.intro;refine⟨?_,_,rfl,?_⟩
              ·cbv;(repeat' first|exact .inl rfl|exact trivial|(refine⟨_,cq (enc:=(bu M r)) (x:=(⟨gO.kind,gO.name,gO.num,Rn⟩:aD)) hM ⟨rfl,rfl,rfl,(dG hM agY),trivial⟩ rfl,?_⟩;cbv)|(refine⟨_,ay (enc:=(bu M r)) hI hM Kf (fun _=>rfl) rfl (fun _=>rfl),?_⟩;cbv)|apply And.intro);all_goals exact bw
              cbv;refine letE h fun n67 ahk h=>⟨_,an hI hM ahk,?_⟩;cbv;refine⟨?_,trivial⟩;refine⟨_,cq (enc:=ax) (x:=(I.wrap .i64 (I.sub n67 1))) hM (ao _) rfl,?_⟩;cbv;refine⟨?_,trivial⟩;refine ah h fun l68 ahJ h=>⟨_,ay (enc:=ax) hI hM ahJ (fun _=>rfl) rfl (fun _=>rfl),?_⟩;cbv;refine⟨?_,trivial⟩;cases h;first|exact Or.inl rfl|exact bw
            cbv;refine letE h fun n69 ahj h=>⟨_,an hI hM ahj,?_⟩;cbv;refine lp h (fun(PJ,KB,QI)=>[(90,(vi QI))]) (fun(PJ,KB,QI)=>[(12915008,.box [(vs eT.head),(vi eT.aM),(.gs r (.c 12915008 2) (M.map (bu M r) PJ)),(vi 0),(.gs r (.c 12915008 4) (M.map ax v9)),(.fn (.func 71) [(.aX q [(.sl p (M.map (aA M p) bn.af))] 0)])]),(12916086,.box [(vs ⟨#[]⟩),(vi 0),(.v gQ),(vi 0),(.gs r (.c 12916086 4) (M.map ax KB)),(.v .nilFunc)])]) fun Rm7 m7 zb st h=>?_;obtain⟨PJ,KB,QI⟩:=st;dsimp only[cV]at h;cbv;refine si h (fun h=>?_) fun h=>?_
            ·as_aux_lemma=>
              cbv;refine ah h fun D5 agJ h=>⟨_,aq hM agJ rfl,?_⟩;cbv;refine si h (fun h=>?_) fun h=>?_
              ·cbv;refine ah h fun x74 Vn h=>⟨_,aq hM Vn rfl,?_⟩;cbv;refine⟨_,cq (enc:=ax) (x:=x74) hM (ao _) rfl,?_⟩;cbv;refine ah h fun l75 ahH h=>⟨_,ay (enc:=ax) hI hM ahH (fun _=>rfl) rfl (fun _=>rfl),?_⟩;cbv;exact b8 (zb _ _ h)
              cbv;refine si h (fun h=>?_) fun h=>?_
              ·cbv;refine ah h fun x76 OX h=>?_;refine ah h fun x77 agI h=>?_;refine ah h fun x78 agH h=>?_;apply Exists.intro;refine⟨?_,_,rfl,?_⟩
               ·cbv;(repeat' first|exact .inl rfl|exact trivial|(refine⟨_,aq hM OX rfl,?_⟩;cbv)|(refine⟨_,aq hM agI rfl,?_⟩;cbv)|(refine⟨_,aq hM agH rfl,?_⟩;cbv)|apply And.intro);all_goals exact bw
               cbv;refine⟨_,cq (enc:=ax) (x:=x78) hM (ao _) rfl,?_⟩;cbv;refine ah h fun l79 ahF h=>⟨_,ay (enc:=ax) hI hM ahF (fun _=>rfl) rfl (fun _=>rfl),?_⟩;cbv;exact b8 (zb _ _ h)
              cbv;refine lC h fun j80 j81 hj h=>?_;dsimp only at h;refine bk none [(19,(vi j80)),(18,.any)] [(12915008,.box [(vs eT.head),(vi eT.aM),(.gs r (.c 12915008 2) (M.map (bu M r) j81)),(vi 0),(.gs r (.c 12915008 4) (M.map ax v9)),(.fn (.func 71) [(.aX q [(.sl p (M.map (aA M p) bn.af))] 0)])])] g nx ?_ ?_
              ·replace h:=hj;cbv;refine⟨?_,trivial⟩;refine ah h fun y82 ags h=>⟨fun _=>rfl,(.sl r (M.map ax y82)),g,nx,fun ρ=>by cbv;exact us hc (eL hI hM ags),?_⟩;cbv;refine⟨?_,trivial⟩;refine letE h fun Y1 Kb h=>⟨_,an hI hM Kb,?_⟩;cbv;refine ah h fun BZ V5 h=>⟨_,_,eh (enc:=ax) hI hM V5 (by decide) rfl,?_⟩;cbv;refine letE h fun DL ahC h=>?_;refine letE h fun n86 ahf h=>⟨_,_,iK (enc:=ax) hI hM ahC ahf rfl (fun _=>rfl) (fun _=>rfl),?_⟩;cbv;refine⟨_,an hI hM Kb,?_⟩;cbv;refine si h (fun h=>?_) fun h=>?_
               ·cbv;refine ah h fun l87 ahB h=>?_;apply Exists.intro;refine⟨?_,_,rfl,?_⟩
                ·cbv;(repeat' first|exact .inl rfl|exact trivial|(refine⟨_,cq (enc:=(bu M r)) (x:=(⟨D5.kind,D5.name,D5.num,[]⟩:aD)) hM ⟨rfl,rfl,rfl,(aK hM),trivial⟩ rfl,?_⟩;cbv)|(refine⟨_,ay (enc:=(bu M r)) hI hM ahB (fun _=>rfl) rfl (fun _=>rfl),?_⟩;cbv)|apply And.intro);all_goals exact bw
                cbv;refine letE h fun n88 ahe h=>⟨_,an hI hM ahe,?_⟩;cbv;cases h;first|exact Or.inl rfl|exact bw
               cbv;refine ah h fun u89 agW h=>?_;refine ah h fun l90 ahz h=>?_;apply Exists.intro;refine⟨?_,_,rfl,?_⟩
               ·cbv;(repeat' first|exact .inl rfl|exact trivial|(refine⟨_,cq (enc:=(bu M r)) (x:=(⟨D5.kind,D5.name,D5.num,DL⟩:aD)) hM ⟨rfl,rfl,rfl,(dG hM agW),trivial⟩ rfl,?_⟩;cbv)|(refine⟨_,ay (enc:=(bu M r)) hI hM ahz (fun _=>rfl) rfl (fun _=>rfl),?_⟩;cbv)|apply And.intro);all_goals exact bw
               cbv;refine letE h fun n91 ahc h=>⟨_,an hI hM ahc,?_⟩;cbv;cases h;first|exact Or.inl rfl|exact bw
              clear hj;cbv;refine⟨_,cq (enc:=ax) (x:=j80) hM (ao _) rfl,?_⟩;cbv;refine ah h fun l92 ahy h=>⟨_,ay (enc:=ax) hI hM ahy (fun _=>rfl) rfl (fun _=>rfl),?_⟩;cbv;exact b8 (zb _ _ h)
            cbv;refine ah h fun x96 agC h=>?_;apply Exists.intro;refine⟨?_,_,rfl,?_⟩
            ·cbv;(repeat' first|exact .inl rfl|exact trivial|(refine⟨_,aq hM agC rfl,?_⟩;cbv)|apply And.intro);all_goals exact bw
            cbv;refine⟨?_,trivial⟩;refine⟨_,cq (enc:=ax) (x:=x96) hM (ao _) rfl,?_⟩;cbv;refine⟨?_,trivial⟩;refine ah h fun l97 ahw h=>⟨_,ay (enc:=ax) hI hM ahw (fun _=>rfl) rfl (fun _=>rfl),?_⟩;cbv;refine⟨?_,trivial⟩;cases h;first|exact Or.inl rfl|exact bw
          cbv;refine ah h fun k98 Wv h=>?_;refine ah h fun x99 agB h=>?_;refine ah h fun afb VD h=>?_;refine ah h fun ais Mq h=>?_;refine ah h fun afa VC h=>?_;refine ah h fun ae9 VB h=>?_;refine letE h fun W5 V2 h=>?_;apply Exists.intro;refine⟨?_,_,rfl,?_⟩
          ·cbv;(repeat' first|exact .inl rfl|exact trivial|((first|refine⟨_,⟨rfl,rfl,aL hI Wv⟩,?_⟩|refine⟨_,aL hI Wv,?_⟩);cbv)|(refine⟨_,_,rfl,bj hM agB,rfl,?_⟩;cbv)|(refine⟨_,aq hM VD rfl,?_⟩;cbv)|((first|refine⟨_,⟨rfl,rfl,aL hI Mq⟩,?_⟩|refine⟨_,aL hI Mq,?_⟩);cbv)|(refine⟨_,_,rfl,bj hM VC,rfl,?_⟩;cbv)|(refine⟨_,aq hM VB rfl,?_⟩;cbv)|(refine⟨_,an hI hM V2,?_⟩;cbv)|apply And.intro);all_goals exact bw
          cbv;refine⟨_,rfl,?_⟩;cbv;refine lp h (fun _=>[]) (fun _=>[]) fun Rm8 m8 GG st h=>?_;dsimp only[ij]at h;cbv;refine jR (oD hI (by decide)) ?_;cbv;refine letE h fun Kx FY h=>⟨_,an hI hM FY,?_⟩;cbv;refine⟨_,xh (enc:=ax) (l:=[Kx,0,(I.wrap .i64 (I.sub (I.wrap .i64 (I.sub W5 AG)) 1))]) hM ⟨⟨(ao _),rfl⟩,⟨(ao _),rfl⟩,⟨(ao _),rfl⟩,trivial⟩,?_⟩;cbv;refine ah h fun ae0 Vl h=>⟨_,fun hp=>us hc (dU hI hM (aE Vl hp.1)),?_⟩;cbv;refine si h (fun h=>?_) fun h=>?_
          ·as_aux_lemma=>
            cbv;refine letE h fun aa7 Mm h=>⟨_,an hI hM Mm,?_⟩;cbv;refine ah h fun M3 Wr h=>⟨_,_,eh (enc:=ax) hI hM Wr (by decide) rfl,?_⟩;cbv;refine letE h fun Tj Wq h=>?_;refine letE h fun am3 V1 h=>⟨_,_,iK (enc:=ax) hI hM Wq V1 rfl (fun _=>rfl) (fun _=>rfl),?_⟩;cbv;refine⟨_,an hI hM Mm,?_⟩;cbv;refine si h (fun h=>?_) fun h=>?_
            ·cbv;refine ah h fun M1 F1 h=>?_;apply Exists.intro;refine⟨?_,_,rfl,?_⟩
             ·cbv;(repeat' first|exact .inl rfl|exact trivial|(refine⟨_,cq (enc:=(bu M r)) (x:=(⟨gO.kind,gO.name,gO.num,[]⟩:aD)) hM ⟨rfl,rfl,rfl,(aK hM),trivial⟩ rfl,?_⟩;cbv)|(refine⟨_,ay (enc:=(bu M r)) hI hM F1 (fun _=>rfl) rfl (fun _=>rfl),?_⟩;cbv)|apply And.intro);all_goals exact bw
             cbv;refine letE h fun W4 V0 h=>⟨_,an hI hM V0,?_⟩;cbv;refine⟨?_,trivial⟩;refine⟨_,cq (enc:=ax) (x:=(I.wrap .i64 (I.sub W4 1))) hM (ao _) rfl,?_⟩;cbv;refine⟨?_,trivial⟩;refine ah h fun aii Wp h=>⟨_,ay (enc:=ax) hI hM Wp (fun _=>rfl) rfl (fun _=>rfl),?_⟩;cbv;refine⟨?_,trivial⟩;cases h;first|exact Or.inl rfl|exact bw
            cbv;refine ah h fun alS VG h=>?_;refine ah h fun abj Wo h=>?_;apply Exists.intro;refine⟨?_,_,rfl,?_⟩
            ·cbv;(repeat' first|exact .inl rfl|exact trivial|(refine⟨_,cq (enc:=(bu M r)) (x:=(⟨gO.kind,gO.name,gO.num,Tj⟩:aD)) hM ⟨rfl,rfl,rfl,(dG hM VG),trivial⟩ rfl,?_⟩;cbv)|(refine⟨_,ay (enc:=(bu M r)) hI hM Wo (fun _=>rfl) rfl (fun _=>rfl),?_⟩;cbv)|apply And.intro);all_goals exact bw
            cbv;refine letE h fun W3 VZ h=>⟨_,an hI hM VZ,?_⟩;cbv;refine⟨?_,trivial⟩;refine⟨_,cq (enc:=ax) (x:=(I.wrap .i64 (I.sub W3 1))) hM (ao _) rfl,?_⟩;cbv;refine⟨?_,trivial⟩;refine ah h fun aih Wn h=>⟨_,ay (enc:=ax) hI hM Wn (fun _=>rfl) rfl (fun _=>rfl),?_⟩;cbv;refine⟨?_,trivial⟩;cases h;first|exact Or.inl rfl|exact bw
          cbv;refine⟨_,rfl,?_⟩;cbv;refine lp h (fun _=>[]) (fun _=>[]) fun Rm9 m9 XL st h=>?_;dsimp only[lH]at h;cbv;refine jR (oD hI (by decide)) ?_;cbv;cases h
         clear hj;cbv;exact b8 (sV _ _ h)
       cbv;refine ah h fun ae4 amt h=>?_;apply Exists.intro;refine⟨?_,_,rfl,?_⟩
       ·cbv;(repeat' first|exact .inl rfl|exact trivial|(refine⟨_,aq hM amt rfl,?_⟩;cbv)|apply And.intro);all_goals exact bw
       cbv;refine ah h fun ans adT h=>?_
       (first|refine⟨_,⟨rfl,rfl,aL hI adT⟩,?_⟩|refine⟨_,aL hI adT,?_⟩)
       cbv;refine ah h fun alM ams h=>⟨_,_,rfl,bj hM ams,rfl,?_⟩;cbv;refine ah h fun aip amJ h=>⟨_,cE hI hM amJ,?_⟩;cbv;refine ah h fun Zq Vv h=>?_;refine ah h fun anj amC h=>?_;refine ah h fun Tg Iv h=>?_;apply Exists.intro;refine⟨?_,_,rfl,?_⟩
       ·cbv;(repeat' first|exact .inl rfl|exact trivial|(refine⟨_,_,_,⟨rfl,bj (enc:=(aA M r)) hM Vv,rfl,rfl⟩,?_⟩;cbv)|(refine⟨_,cq (enc:=(aB M r)) (x:=(⟨eT.head,eT.aM,re,ae4⟩:ag)) hM (ao _) rfl,?_⟩;cbv)|(refine⟨_,ay (enc:=(aB M r)) hI hM amC (fun _=>rfl) rfl (fun _=>rfl),?_⟩;cbv)|((first|refine⟨_,tQ (enc:=(aA M r)) hI hM Vv Iv (show 2<3 from by decide) rfl,?_⟩|refine⟨rfl,rfl,rfl,_,tQ (enc:=(aA M r)) hI hM Vv Iv (show 2<3 from by decide) rfl,?_⟩);cbv)|apply And.intro);all_goals exact bw
       cbv;(try(refine⟨rfl,?_⟩;cbv));refine nR hI ?_;cbv;exact b8 (sW _ _ h)
     cbv;exact b8 (kI _ _ h)
   cbv;(try(refine⟨rfl,?_⟩;cbv));refine ah h fun ari amy h=>?_;obtain rfl:=o5 h;cbv;(all_goals(repeat' apply And.intro));all_goals first|trivial|rfl|exact(aK hM)|exact(dG hM amy)
 cbv;cases h
end Ab
