/- PassesAll holds of all pairs of cores (no condition): a part of the proof: an abstract interpreter of the code that is proved sound, models of the functions, and laws of these models. -/
import Derived.Test.YtcdinjhcnhepeaaGreatDoorA02
import Derived.Test.YtcdinjhcnhepeaaGreatDoorA04
import Derived.Test.YtcdinjhcnhepeaaGreatDoorA04c
import Derived.Test.YtcdinjhcnhepeaaGreatDoorA03
set_option linter.unusedVariables false
set_option linter.unusedSimpArgs false
set_option linter.unusedSectionVars false
namespace Ab
open Go Go.Proofs.Tryz
set_option maxHeartbeats 100000000
set_option maxRecDepth 100000
variable{I:Pr}(hI:I=ak){M:Md}(hM:M= .ak){n nx r s p q u rl:Nat}{g:Nat→Option Ob}
 include hI hM
theorem vq{a0:ai}{v:ai×Int}(h:ml I M n a0=some v):
  cj 12 [(.agg (bd M p a0))] (.gY [(.agg (bd M r v.1)),(vi v.2)]) g nx:=by
 refine Aq func12 c12 r age akv [5] 16 ntmps12 [.cell 2 24,.tmp 3] hI (bF.cons (sB r) (bF.cons (wo r) (bF.cons (abX r) (bF.cons (abY r) (bF.cons (wq r) (bF.cons (yO r) (vK PP im))))))) 8 fun call hc=>?_;cbv;refine ah h fun y1 c4 h=>⟨_,_,_,us hc (db hI hM c4),?_⟩;cbv;refine si h (fun h=>by cbv;cases h;exact fin) fun h=>?_;cbv;refine letE h fun n2 pf h=>⟨_,an hI hM pf,?_⟩;cbv;refine kU n (fun kS aZ=>?_);cbv;refine si h (fun h=>?_) fun h=>?_
 ·as_aux_lemma=>
   cbv;refine ah h fun x3 lG h=>⟨_,aq hM lG rfl,?_⟩;cbv;refine⟨_,RV (by rfl),?_⟩;cbv;refine ah h fun l4 NZ h=>⟨sg hI NZ,_,_,zT (enc:=(aA M r)) hI hM NZ (by have e0:=aK (enc:=(aB M r)) hM;simp only[aA,vi,vs,vb,cv,eJ,e0]),?_⟩;cbv;refine aZ _ (lpD h [50009] (fun(l5,z6)=>[(19,(vi z6)),(20,.any)]) (fun(l5,z6)=>[(50007,.box [(.jB (.s 50031) (M.ln l5))]),(50031,.ow (.sl 3) none (M.map (aA M r) l5))]) fun Dc m2 dm st h=>?_);obtain⟨l5,z6⟩:=st;dsimp only[gv]at h;cbv;refine si h (fun h=>?_) fun h=>?_
   ·cbv;refine ah h fun x7 zr h=>⟨_,aq hM zr rfl,?_⟩;cbv;refine⟨_,RV (by rfl),?_⟩;cbv;refine ah h fun l8 SW h=>?_
    (refine⟨_,_,F5 (enc:=(aA M r)) hI hM SW ?_,?_⟩;next=>have e0:=aK (enc:=(aB M r)) hM;simp only[aA,vi,vs,vb,cv,eJ,e0])
    cbv;exact b8 (dm _ _ h)
   cbv;intro l;cbv;refine letE h fun xa zS h=>⟨_,an hI hM zS,?_⟩;cbv;refine lp h (fun(ia,yY,eU)=>[(10,(vi eU))]) (fun(ia,yY,eU)=>[(5,.box [(.sl p (M.map cS ia))]),(50031,.ow (.sl 3) none (M.map (aA M r) yY))]) fun QA m3 kI st h=>?_;obtain⟨ia,yY,eU⟩:=st;dsimp only[gr]at h;cbv;refine si h (fun h=>?_) fun h=>?_
   ·as_aux_lemma=>
     cbv;refine ah h fun AB D9 h=>⟨_,aq hM D9 rfl,?_⟩;cbv;refine letE h fun Gd FX h=>⟨_,an hI hM FX,?_⟩;cbv;refine lp h (fun(ua,rJ,fh)=>[(18,(vi fh))]) (fun(ua,rJ,fh)=>[(5,.box [(.sl p (M.map cS ua))]),(50031,.ow (.sl 3) none (M.map (aA M r) rJ))]) fun YG m4 sW st h=>?_;obtain⟨ua,rJ,fh⟩:=st;dsimp only[gp]at h;cbv;refine si h (fun h=>?_) fun h=>?_
     ·as_aux_lemma=>
       cbv;refine ah h fun eT FR h=>⟨_,aq hM FR rfl,?_⟩;cbv;(try(refine⟨⟨rfl,rfl,rfl⟩,?_⟩;cbv));refine letE h fun xP Ki h=>⟨_,⟨rfl,eR (enc:=ax) hI hM Ki rfl⟩,?_⟩;cbv;refine ah h fun Zs AX h=>?_
       (first|refine⟨_,⟨aQ hI hM AX,tP (enc:=ax) (l:=[eU,fh]) hI hM rfl⟩,?_⟩|refine⟨_,⟨rfl,aQ hI hM AX,rfl,rfl,tP (enc:=ax) (l:=[eU,fh]) hI hM rfl⟩,?_⟩)
       cbv;(try(refine⟨rfl,?_⟩;cbv));refine ah h fun Sh sT h=>?_
       (first|refine⟨⟨rfl,aQ hI hM sT,rfl⟩,?_⟩|refine⟨⟨aQ hI hM sT,trivial⟩,?_⟩|refine⟨aQ hI hM sT,?_⟩)
       cbv;(try(refine⟨⟨by decide,by decide⟩,?_⟩;cbv));refine ah h fun k24 Pq h=>?_;refine ah h fun BY O2 h=>?_;refine ah h fun x26 agT h=>?_;refine ah h fun k27 amG h=>?_;refine ah h fun x28 arQ h=>?_;refine ah h fun rF O1 h=>?_;refine ah h fun Lp Mi h=>?_;apply Exists.intro;refine⟨?_,_,rfl,?_⟩
       ·cbv;(repeat' first|exact .inl rfl|exact trivial|((first|refine⟨_,⟨rfl,rfl,aL hI Pq⟩,?_⟩|refine⟨_,aL hI Pq,?_⟩);cbv)|(refine⟨_,_,rfl,bj hM O2,rfl,?_⟩;cbv)|(refine⟨_,aq hM agT rfl,?_⟩;cbv)|((first|refine⟨_,⟨rfl,rfl,aL hI amG⟩,?_⟩|refine⟨_,aL hI amG,?_⟩);cbv)|(refine⟨_,_,rfl,bj hM arQ,rfl,?_⟩;cbv)|(refine⟨_,aq hM O1 rfl,?_⟩;cbv)|(refine⟨_,_,_,us hc (Eo hI hM Mi),?_⟩;cbv)|apply And.intro);all_goals exact bw
       cbv;apply Exists.intro;refine⟨?_,_,rfl,?_⟩
       ·cbv;(repeat' first|exact .inl rfl|exact trivial|apply And.intro);all_goals exact bw
       cbv;refine letE h fun n31 Pb h=>⟨_,an hI hM Pb,?_⟩;cbv;refine lp h (fun(KD,IK,EF)=>[(56,(vi EF))]) (fun(KD,IK,EF)=>[(12858018,.box [(vs eT.head),(vi eT.aM),(.gs r (.c 12858018 2) (M.map (bu M r) KD)),(vi 0),(.gs r (.c 12858018 4) (M.map ax IK)),(.v .nilFunc)])]) fun YF m5 sV st h=>?_;obtain⟨KD,IK,EF⟩:=st;dsimp only[gn]at h;cbv;refine si h (fun h=>?_) fun h=>?_
       ·as_aux_lemma=>
         cbv;refine ah h fun rm FQ h=>⟨_,aq hM FQ rfl,?_⟩;cbv;refine lC h fun To HJ hj h=>?_;dsimp only at h;refine bk none [(13,.any),(14,.any)] [(12858018,.box [(vs eT.head),(vi eT.aM),(.gs r (.c 12858018 2) (M.map (bu M r) To)),(vi 0),(.gs r (.c 12858018 4) (M.map ax HJ)),(.v .nilFunc)])] g nx ?_ ?_
         ·replace h:=hj;cbv;refine⟨?_,?_⟩
          ·refine⟨?_,trivial⟩;refine ah h fun x38 agR h=>⟨_,fun hp=>aq hM (aE agR hp.1) rfl,?_⟩;cbv;refine si h (fun h=>?_) fun h=>?_
           ·as_aux_lemma=>
             cbv;refine lC h fun Eg j40 hj h=>?_;dsimp only at h;refine bk none [(7,(vi Eg)),(0,.any),(6,.any)] [(12858018,.box [(vs eT.head),(vi eT.aM),(.gs r (.c 12858018 2) (M.map (bu M r) j40)),(vi 0),(.gs r (.c 12858018 4) (M.map ax IK)),(.v .nilFunc)])] g nx ?_ ?_
             ·replace h:=hj;cbv;refine⟨?_,trivial⟩;refine ah h fun Ub Vg h=>⟨fun _=>rfl,(.sl r (M.map ax Ub)),g,nx,fun ρ=>by cbv;exact us hc (aY hI hM Vg),?_⟩;cbv;refine⟨?_,trivial⟩;refine letE h fun n42 VN h=>⟨_,an hI hM VN,?_⟩;cbv;refine ah h fun KC Pk h=>⟨_,_,eh (enc:=ax) hI hM Pk (by decide) rfl,?_⟩;cbv;refine letE h fun HG Cs h=>?_;refine letE h fun MO Cr h=>⟨_,_,iK (enc:=ax) hI hM Cs Cr rfl (fun _=>rfl) (fun _=>rfl),?_⟩;cbv;refine⟨_,an hI hM VN,?_⟩;cbv;refine si h (fun h=>?_) fun h=>?_
              ·cbv;refine ah h fun l46 ahM h=>?_;apply Exists.intro;refine⟨?_,_,rfl,?_⟩
               ·cbv;(repeat' first|exact .inl rfl|exact trivial|(refine⟨_,cq (enc:=(bu M r)) (x:=(⟨5,rm.name,rm.num,[]⟩:aD)) hM ⟨rfl,rfl,rfl,(aK hM),trivial⟩ rfl,?_⟩;cbv)|(refine⟨_,ay (enc:=(bu M r)) hI hM ahM (fun _=>rfl) rfl (fun _=>rfl),?_⟩;cbv)|apply And.intro);all_goals exact bw
               cbv;refine letE h fun n47 ahn h=>⟨_,an hI hM ahn,?_⟩;cbv;cases h;first|exact Or.inl rfl|exact bw
              cbv;refine ah h fun u48 ag2 h=>?_;refine ah h fun Xa Kh h=>?_;apply Exists.intro;refine⟨?_,_,rfl,?_⟩
              ·cbv;(repeat' first|exact .inl rfl|exact trivial|(refine⟨_,cq (enc:=(bu M r)) (x:=(⟨5,rm.name,rm.num,HG⟩:aD)) hM ⟨rfl,rfl,rfl,(dG hM ag2),trivial⟩ rfl,?_⟩;cbv)|(refine⟨_,ay (enc:=(bu M r)) hI hM Kh (fun _=>rfl) rfl (fun _=>rfl),?_⟩;cbv)|apply And.intro);all_goals exact bw
              cbv;refine letE h fun n50 O7 h=>⟨_,an hI hM O7,?_⟩;cbv;cases h;first|exact Or.inl rfl|exact bw
             clear hj;cbv;refine⟨?_,trivial⟩;refine⟨_,cq (enc:=ax) (x:=Eg) hM (ao _) rfl,?_⟩;cbv;refine⟨?_,trivial⟩;refine ah h fun Y6 V9 h=>⟨_,ay (enc:=ax) hI hM V9 (fun _=>rfl) rfl (fun _=>rfl),?_⟩;cbv;refine⟨?_,trivial⟩;cases h;first|exact Or.inl rfl|exact bw
           cbv;refine lC h fun j52 j53 hj h=>?_;dsimp only at h;refine bk none [(7,(vi j52)),(0,.any),(6,.any)] [(12858018,.box [(vs eT.head),(vi eT.aM),(.gs r (.c 12858018 2) (M.map (bu M r) j53)),(vi 0),(.gs r (.c 12858018 4) (M.map ax IK)),(.v .nilFunc)])] g nx ?_ ?_
           ·replace h:=hj;cbv;refine⟨?_,trivial⟩;refine ah h fun YS SJ h=>⟨fun _=>rfl,(.sl r (M.map ax YS)),g,nx,fun ρ=>by cbv;exact us hc (aY hI hM SJ),?_⟩;cbv;refine⟨?_,trivial⟩;refine letE h fun n55 VL h=>⟨_,an hI hM VL,?_⟩;cbv;refine ah h fun PL HD h=>⟨_,_,eh (enc:=ax) hI hM HD (by decide) rfl,?_⟩;cbv;refine letE h fun W9 Pe h=>?_;refine letE h fun WW Cq h=>⟨_,_,iK (enc:=ax) hI hM Pe Cq rfl (fun _=>rfl) (fun _=>rfl),?_⟩;cbv;refine⟨_,an hI hM VL,?_⟩;cbv;refine si h (fun h=>?_) fun h=>?_
            ·cbv;refine ah h fun MZ F0 h=>?_;apply Exists.intro;refine⟨?_,_,rfl,?_⟩
             ·cbv;(repeat' first|exact .inl rfl|exact trivial|(refine⟨_,cq (enc:=(bu M r)) (x:=(⟨rm.kind,rm.name,rm.num,[]⟩:aD)) hM ⟨rfl,rfl,rfl,(aK hM),trivial⟩ rfl,?_⟩;cbv)|(refine⟨_,ay (enc:=(bu M r)) hI hM F0 (fun _=>rfl) rfl (fun _=>rfl),?_⟩;cbv)|apply And.intro);all_goals exact bw
             cbv;refine letE h fun n60 SR h=>⟨_,an hI hM SR,?_⟩;cbv;cases h;first|exact Or.inl rfl|exact bw
            cbv;refine ah h fun u61 agZ h=>?_;refine ah h fun PK FZ h=>?_;apply Exists.intro;refine⟨?_,_,rfl,?_⟩
            ·cbv;(repeat' first|exact .inl rfl|exact trivial|(refine⟨_,cq (enc:=(bu M r)) (x:=(⟨rm.kind,rm.name,rm.num,W9⟩:aD)) hM ⟨rfl,rfl,rfl,(dG hM agZ),trivial⟩ rfl,?_⟩;cbv)|(refine⟨_,ay (enc:=(bu M r)) hI hM FZ (fun _=>rfl) rfl (fun _=>rfl),?_⟩;cbv)|apply And.intro);all_goals exact bw
            cbv;refine letE h fun PA FV h=>⟨_,an hI hM FV,?_⟩;cbv;cases h;first|exact Or.inl rfl|exact bw
           clear hj;cbv;refine⟨?_,trivial⟩;refine⟨_,cq (enc:=ax) (x:=j52) hM (ao _) rfl,?_⟩;cbv;refine⟨?_,trivial⟩;refine ah h fun Tc Kg h=>⟨_,ay (enc:=ax) hI hM Kg (fun _=>rfl) rfl (fun _=>rfl),?_⟩;cbv;refine⟨?_,trivial⟩;cases h;first|exact Or.inl rfl|exact bw
          refine⟨?_,trivial⟩;refine ah h fun x38 agR h=>⟨_,fun hp=>aq hM (aE agR hp.1) rfl,?_⟩;cbv;refine si h (fun h=>?_) fun h=>?_
          ·as_aux_lemma=>
            cbv;refine lC h fun Eg j40 hj h=>?_;dsimp only at h;refine bk none [(7,(vi Eg)),(0,.any),(6,.any)] [(12858018,.box [(vs eT.head),(vi eT.aM),(.gs r (.c 12858018 2) (M.map (bu M r) j40)),(vi 0),(.gs r (.c 12858018 4) (M.map ax IK)),(.v .nilFunc)])] g nx ?_ ?_
            ·replace h:=hj;cbv;refine⟨?_,trivial⟩;refine ah h fun Ub Vg h=>⟨fun _=>rfl,(.sl r (M.map ax Ub)),g,nx,fun ρ=>by cbv;exact us hc (aY hI hM Vg),?_⟩;cbv;refine⟨?_,trivial⟩;refine letE h fun n42 VN h=>⟨_,an hI hM VN,?_⟩;cbv;refine ah h fun KC Pk h=>⟨_,_,eh (enc:=ax) hI hM Pk (by decide) rfl,?_⟩;cbv;refine letE h fun HG Cs h=>?_;refine letE h fun MO Cr h=>⟨_,_,iK (enc:=ax) hI hM Cs Cr rfl (fun _=>rfl) (fun _=>rfl),?_⟩;cbv;refine⟨_,an hI hM VN,?_⟩;cbv;refine si h (fun h=>?_) fun h=>?_
             ·cbv;refine ah h fun l46 ahM h=>?_;apply Exists.intro;refine⟨?_,_,rfl,?_⟩
              ·cbv;(repeat' first|exact .inl rfl|exact trivial|(refine⟨_,cq (enc:=(bu M r)) (x:=(⟨5,rm.name,rm.num,[]⟩:aD)) hM ⟨rfl,rfl,rfl,(aK hM),trivial⟩ rfl,?_⟩;cbv)|(refine⟨_,ay (enc:=(bu M r)) hI hM ahM (fun _=>rfl) rfl (fun _=>rfl),?_⟩;cbv)|apply And.intro);all_goals exact bw
              cbv;refine letE h fun n47 ahn h=>⟨_,an hI hM ahn,?_⟩;cbv;cases h;first|exact Or.inl rfl|exact bw
             cbv;refine ah h fun u48 ag2 h=>?_;refine ah h fun Xa Kh h=>?_;apply Exists.intro;refine⟨?_,_,rfl,?_⟩
             ·cbv;(repeat' first|exact .inl rfl|exact trivial|(refine⟨_,cq (enc:=(bu M r)) (x:=(⟨5,rm.name,rm.num,HG⟩:aD)) hM ⟨rfl,rfl,rfl,(dG hM ag2),trivial⟩ rfl,?_⟩;cbv)|(refine⟨_,ay (enc:=(bu M r)) hI hM Kh (fun _=>rfl) rfl (fun _=>rfl),?_⟩;cbv)|apply And.intro);all_goals exact bw
             cbv;refine letE h fun n50 O7 h=>⟨_,an hI hM O7,?_⟩;cbv;cases h;first|exact Or.inl rfl|exact bw
            clear hj;cbv;refine⟨?_,trivial⟩;refine⟨_,cq (enc:=ax) (x:=Eg) hM (ao _) rfl,?_⟩;cbv;refine⟨?_,trivial⟩;refine ah h fun Y6 V9 h=>⟨_,ay (enc:=ax) hI hM V9 (fun _=>rfl) rfl (fun _=>rfl),?_⟩;cbv;refine⟨?_,trivial⟩;cases h;first|exact Or.inl rfl|exact bw
          cbv;refine lC h fun j52 j53 hj h=>?_;dsimp only at h;refine bk none [(7,(vi j52)),(0,.any),(6,.any)] [(12858018,.box [(vs eT.head),(vi eT.aM),(.gs r (.c 12858018 2) (M.map (bu M r) j53)),(vi 0),(.gs r (.c 12858018 4) (M.map ax IK)),(.v .nilFunc)])] g nx ?_ ?_
          ·replace h:=hj;cbv;refine⟨?_,trivial⟩;refine ah h fun YS SJ h=>⟨fun _=>rfl,(.sl r (M.map ax YS)),g,nx,fun ρ=>by cbv;exact us hc (aY hI hM SJ),?_⟩;cbv;refine⟨?_,trivial⟩;refine letE h fun n55 VL h=>⟨_,an hI hM VL,?_⟩;cbv;refine ah h fun PL HD h=>⟨_,_,eh (enc:=ax) hI hM HD (by decide) rfl,?_⟩;cbv;refine letE h fun W9 Pe h=>?_;refine letE h fun WW Cq h=>⟨_,_,iK (enc:=ax) hI hM Pe Cq rfl (fun _=>rfl) (fun _=>rfl),?_⟩;cbv;refine⟨_,an hI hM VL,?_⟩;cbv;refine si h (fun h=>?_) fun h=>?_
           ·cbv;refine ah h fun MZ F0 h=>?_;apply Exists.intro;refine⟨?_,_,rfl,?_⟩
            ·cbv;(repeat' first|exact .inl rfl|exact trivial|(refine⟨_,cq (enc:=(bu M r)) (x:=(⟨rm.kind,rm.name,rm.num,[]⟩:aD)) hM ⟨rfl,rfl,rfl,(aK hM),trivial⟩ rfl,?_⟩;cbv)|(refine⟨_,ay (enc:=(bu M r)) hI hM F0 (fun _=>rfl) rfl (fun _=>rfl),?_⟩;cbv)|apply And.intro);all_goals exact bw
            cbv;refine letE h fun n60 SR h=>⟨_,an hI hM SR,?_⟩;cbv;cases h;first|exact Or.inl rfl|exact bw
           cbv;refine ah h fun u61 agZ h=>?_;refine ah h fun PK FZ h=>?_;apply Exists.intro;refine⟨?_,_,rfl,?_⟩
           ·cbv;(repeat' first|exact .inl rfl|exact trivial|(refine⟨_,cq (enc:=(bu M r)) (x:=(⟨rm.kind,rm.name,rm.num,W9⟩:aD)) hM ⟨rfl,rfl,rfl,(dG hM agZ),trivial⟩ rfl,?_⟩;cbv)|(refine⟨_,ay (enc:=(bu M r)) hI hM FZ (fun _=>rfl) rfl (fun _=>rfl),?_⟩;cbv)|apply And.intro);all_goals exact bw
           cbv;refine letE h fun PA FV h=>⟨_,an hI hM FV,?_⟩;cbv;cases h;first|exact Or.inl rfl|exact bw
          clear hj;cbv;refine⟨?_,trivial⟩;refine⟨_,cq (enc:=ax) (x:=j52) hM (ao _) rfl,?_⟩;cbv;refine⟨?_,trivial⟩;refine ah h fun Tc Kg h=>⟨_,ay (enc:=ax) hI hM Kg (fun _=>rfl) rfl (fun _=>rfl),?_⟩;cbv;refine⟨?_,trivial⟩;cases h;first|exact Or.inl rfl|exact bw
         clear hj;cbv;exact b8 (sV _ _ h)
       cbv;refine ah h fun Zn Vp h=>?_;apply Exists.intro;refine⟨?_,_,rfl,?_⟩
       ·cbv;(repeat' first|exact .inl rfl|exact trivial|(refine⟨_,aq hM Vp rfl,?_⟩;cbv)|apply And.intro);all_goals exact bw
       cbv;refine ah h fun Y7 S1 h=>?_
       (first|refine⟨_,⟨rfl,rfl,aL hI S1⟩,?_⟩|refine⟨_,aL hI S1,?_⟩)
       cbv;refine ah h fun Zm OY h=>⟨_,_,rfl,bj hM OY,rfl,?_⟩;cbv;refine ah h fun k71 asu h=>⟨_,cE hI hM asu,?_⟩;cbv;refine ah h fun x72 Vo h=>?_;refine ah h fun W8 V7 h=>?_;refine ah h fun l74 SX h=>?_;apply Exists.intro;refine⟨?_,_,rfl,?_⟩
       ·cbv;(repeat' first|exact .inl rfl|exact trivial|(refine⟨_,_,_,⟨rfl,bj (enc:=(aA M r)) hM Vo,rfl,rfl⟩,?_⟩;cbv)|(refine⟨_,cq (enc:=(aB M r)) (x:=(⟨eT.head,eT.aM,KD,Zn⟩:ag)) hM (ao _) rfl,?_⟩;cbv)|(refine⟨_,ay (enc:=(aB M r)) hI hM V7 (fun _=>rfl) rfl (fun _=>rfl),?_⟩;cbv)|((first|refine⟨_,tQ (enc:=(aA M r)) hI hM Vo SX (show 2<3 from by decide) rfl,?_⟩|refine⟨rfl,rfl,rfl,_,tQ (enc:=(aA M r)) hI hM Vo SX (show 2<3 from by decide) rfl,?_⟩);cbv)|apply And.intro);all_goals exact bw
       cbv;(try(refine⟨rfl,?_⟩;cbv));refine nR hI ?_;cbv;exact b8 (sW _ _ h)
     cbv;exact b8 (kI _ _ h)
   cbv;(try(refine⟨rfl,?_⟩;cbv));refine ah h fun u81 arV h=>?_;obtain rfl:=o5 h;cbv;(all_goals(repeat' apply And.intro));all_goals first|trivial|rfl|exact(aK hM)|exact(dG hM arV)
 cbv;cases h
end Ab
