/- PassesAll holds of all pairs of cores (no condition): a part of the proof: an abstract interpreter of the code that is proved sound, models of the functions, and laws of these models. -/
import Derived.Test.YtcdinjhcnhepeaaGreatDoorA02
import Derived.Test.YtcdinjhcnhepeaaGreatDoorA04
import Derived.Test.YtcdinjhcnhepeaaGreatDoorA04c
import Derived.Test.YtcdinjhcnhepeaaGreatDoorA03
set_option linter.unusedVariables false
set_option linter.unusedSimpArgs false
set_option linter.unusedSectionVars false
namespace Ab
open Go Go.Proofs.Tryz
set_option maxHeartbeats 100000000
set_option maxRecDepth 100000
variable{I:Pr}(hI:I=ak){M:Md}(hM:M= .ak){n nx r s p q u rl:Nat}{g:Nat→Option Ob}
 include hI hM
theorem Er{a0:ai}{v:ai×Int}(h:A0 I M n a0=some v):
  cj 30 [(.agg (bd M r a0))] (.gY [(.agg (bd M r v.1)),(vi v.2)]) g nx:=by
 refine Aq func30 c30 r af3 akk [5] 42 ntmps30 [.cell 2 24,.tmp 3] hI (bF.cons (sB r) (bF.cons (wo r) (bF.cons (abU r) (bF.cons (RH r) (bF.cons (wq r) (bF.cons (yO r) (vK PP im))))))) 8 fun call hc=>?_;cbv;refine ah h fun y1 c4 h=>⟨_,_,_,us hc (db hI hM c4),?_⟩;cbv;refine si h (fun h=>by cbv;cases h;exact fin) fun h=>?_;cbv;refine ah h fun y2 sS h=>⟨_,_,_,us hc (tJ hI hM sS),?_⟩;cbv;refine letE h fun l3 Q6 h=>⟨_,⟨rfl,eR (enc:=ax) hI hM Q6 rfl⟩,?_⟩;cbv;refine ah h fun u4 O4 h=>?_
 (first|refine⟨⟨rfl,rfl,rfl,aQ hI hM O4,rfl,(by have hq:=cg (enc:=ax) hM (fun _=>rfl) y2;rw[cR.eq_def]at hq;exact hq)⟩,?_⟩|refine⟨⟨aQ hI hM O4,(by have hq:=cg (enc:=ax) hM (fun _=>rfl) y2;rw[cR.eq_def]at hq;exact hq)⟩,?_⟩)
 cbv;refine letE h fun n5 SS h=>⟨_,an hI hM SS,?_⟩;cbv;refine kU n (fun kS aZ=>?_);cbv;refine si h (fun h=>?_) fun h=>?_
 ·as_aux_lemma=>
   cbv;refine ah h fun x6 ER h=>⟨_,aq hM ER rfl,?_⟩;cbv;refine⟨_,RV (by rfl),?_⟩;cbv;refine ah h fun l7 ql7 h=>⟨sg hI ql7,_,_,zT (enc:=(aA M r)) hI hM ql7 (by have e0:=aK (enc:=(aB M r)) hM;simp only[aA,vi,vs,vb,cv,eJ,e0]),?_⟩;cbv;refine aZ _ (lpD h [50009] (fun(l8,z9)=>[(19,(vi z9)),(20,.any)]) (fun(l8,z9)=>[(50007,.box [(.jB (.s 50031) (M.ln l8))]),(50031,.ow (.sl 3) none (M.map (aA M r) l8))]) fun Dc m2 dm st h=>?_);obtain⟨l8,z9⟩:=st;dsimp only[xI]at h;cbv;refine si h (fun h=>?_) fun h=>?_
   ·cbv;refine ah h fun vE xB h=>⟨_,aq hM xB rfl,?_⟩;cbv;refine⟨_,RV (by rfl),?_⟩;cbv;refine ah h fun AD Kj h=>?_
    (refine⟨_,_,F5 (enc:=(aA M r)) hI hM Kj ?_,?_⟩;next=>have e0:=aK (enc:=(aB M r)) hM;simp only[aA,vi,vs,vb,cv,eJ,e0])
    cbv;exact b8 (dm _ _ h)
   cbv;intro l;cbv;refine letE h fun MP Pd h=>⟨_,an hI hM Pd,?_⟩;cbv;refine lp h (fun(yX,lD)=>[(10,(vi lD))]) (fun(yX,lD)=>[(50031,.ow (.sl 3) none (M.map (aA M r) yX))]) fun QA m3 kI st h=>?_;obtain⟨yX,lD⟩:=st;dsimp only[xH]at h;cbv;refine si h (fun h=>?_) fun h=>?_
   ·as_aux_lemma=>
     cbv;refine ah h fun sQ Co h=>⟨_,aq hM Co rfl,?_⟩;cbv;refine letE h fun Uc VR h=>⟨_,an hI hM VR,?_⟩;cbv;refine lp h (fun(KF,Di)=>[(18,(vi Di))]) (fun(KF,Di)=>[(50031,.ow (.sl 3) none (M.map (aA M r) KF))]) fun YG m4 sW st h=>?_;obtain⟨KF,Di⟩:=st;dsimp only[xG]at h;cbv;refine si h (fun h=>?_) fun h=>?_
     ·as_aux_lemma=>
       cbv;refine ah h fun yt Vt h=>⟨_,aq hM Vt rfl,?_⟩;cbv;(try(refine⟨⟨rfl,rfl,rfl⟩,?_⟩;cbv));refine letE h fun IL asm h=>⟨_,⟨rfl,eR (enc:=ax) hI hM asm rfl⟩,?_⟩;cbv;refine ah h fun Sh sT h=>?_
       (first|refine⟨_,⟨aQ hI hM sT,tP (enc:=ax) (l:=[lD,Di]) hI hM rfl⟩,?_⟩|refine⟨_,⟨rfl,aQ hI hM sT,rfl,rfl,tP (enc:=ax) (l:=[lD,Di]) hI hM rfl⟩,?_⟩)
       cbv;(try(refine⟨rfl,?_⟩;cbv));refine ah h fun YY vR h=>?_
       (first|refine⟨⟨rfl,aQ hI hM vR,rfl⟩,?_⟩|refine⟨⟨aQ hI hM vR,trivial⟩,?_⟩|refine⟨aQ hI hM vR,?_⟩)
       cbv;(try(refine⟨⟨by decide,by decide⟩,?_⟩;cbv));apply Exists.intro;refine⟨?_,_,rfl,?_⟩
       ·cbv;(repeat' first|exact .inl rfl|exact trivial|apply And.intro);all_goals exact bw
       cbv;refine letE h fun n25 ar9 h=>⟨_,an hI hM ar9,?_⟩;cbv;refine lp h (fun(KE,re,Lo)=>[(56,(vi Lo))]) (fun(KE,re,Lo)=>[(12887004,.box [(vs yt.head),(vi yt.aM),(.gs r (.c 12887004 2) (M.map (bu M r) KE)),(vi 0),(.gs r (.c 12887004 4) (M.map ax re)),(.v .nilFunc)])]) fun YF m5 sV st h=>?_;obtain⟨KE,re,Lo⟩:=st;dsimp only[xF]at h;cbv;refine si h (fun h=>?_) fun h=>?_
       ·as_aux_lemma=>
         cbv;refine ah h fun rF O1 h=>⟨_,aq hM O1 rfl,?_⟩;cbv;refine lC h fun j30 Xi hj h=>?_;dsimp only at h;refine bk none [(13,.any),(14,.any)] [(12887004,.box [(vs yt.head),(vi yt.aM),(.gs r (.c 12887004 2) (M.map (bu M r) j30)),(vi 0),(.gs r (.c 12887004 4) (M.map ax Xi)),(.v .nilFunc)])] g nx ?_ ?_
         ·replace h:=hj;cbv;refine⟨?_,?_⟩
          ·refine⟨?_,trivial⟩;refine ah h fun y32 SL h=>⟨_,_,_,us hc (dI hI hM SL),?_⟩;cbv;refine si h (fun h=>?_) fun h=>?_
           ·as_aux_lemma=>
             cbv;refine ah h fun yT FN h=>⟨_,_,_,us hc (oM hI hM FN),?_⟩;cbv;refine ah h fun k34 Wy h=>?_;refine ah h fun rm FQ h=>?_;refine ah h fun Ju FP h=>?_;apply Exists.intro;refine⟨?_,_,rfl,?_⟩
             ·cbv;(repeat' first|exact .inl rfl|exact trivial|((first|refine⟨_,⟨rfl,rfl,aL hI Wy⟩,?_⟩|refine⟨_,aL hI Wy,?_⟩);cbv)|(refine⟨_,_,rfl,bj hM FQ,rfl,?_⟩;cbv)|(refine⟨_,aq hM FP rfl,?_⟩;cbv)|apply And.intro);all_goals exact bw
             cbv;refine lC h fun HJ wh hj h=>?_;dsimp only at h;refine bk none [(8,(vi HJ)),(0,.any),(7,.any)] [(12887004,.box [(vs yt.head),(vi yt.aM),(.gs r (.c 12887004 2) (M.map (bu M r) wh)),(vi 0),(.gs r (.c 12887004 4) (M.map ax re)),(.v .nilFunc)])] g nx ?_ ?_
             ·replace h:=hj;cbv;refine⟨?_,trivial⟩;refine ah h fun Uv Vh h=>⟨fun _=>rfl,(.sl r (M.map ax Uv)),g,nx,fun ρ=>by cbv;exact us hc (aY hI hM Vh),?_⟩;cbv;refine⟨?_,trivial⟩;refine letE h fun n40 VP h=>⟨_,an hI hM VP,?_⟩;cbv;refine ah h fun Ue Pm h=>⟨_,_,eh (enc:=ax) hI hM Pm (by decide) rfl,?_⟩;cbv;refine letE h fun Ee Pl h=>?_;refine letE h fun n43 Kd h=>⟨_,_,iK (enc:=ax) hI hM Pl Kd rfl (fun _=>rfl) (fun _=>rfl),?_⟩;cbv;refine⟨_,an hI hM VP,?_⟩;cbv;refine si h (fun h=>?_) fun h=>?_
              ·cbv;refine ah h fun HG Cs h=>?_;apply Exists.intro;refine⟨?_,_,rfl,?_⟩
               ·cbv;(repeat' first|exact .inl rfl|exact trivial|(refine⟨_,cq (enc:=(bu M r)) (x:=(⟨rF.kind,Ju.name,rF.num,[]⟩:aD)) hM ⟨rfl,rfl,rfl,(aK hM),trivial⟩ rfl,?_⟩;cbv)|(refine⟨_,ay (enc:=(bu M r)) hI hM Cs (fun _=>rfl) rfl (fun _=>rfl),?_⟩;cbv)|apply And.intro);all_goals exact bw
               cbv;refine letE h fun MO Cr h=>⟨_,an hI hM Cr,?_⟩;cbv;cases h;first|exact Or.inl rfl|exact bw
              cbv;refine ah h fun u46 ag4 h=>?_;refine ah h fun PN Ph h=>?_;apply Exists.intro;refine⟨?_,_,rfl,?_⟩
              ·cbv;(repeat' first|exact .inl rfl|exact trivial|(refine⟨_,cq (enc:=(bu M r)) (x:=(⟨rF.kind,Ju.name,rF.num,Ee⟩:aD)) hM ⟨rfl,rfl,rfl,(dG hM ag4),trivial⟩ rfl,?_⟩;cbv)|(refine⟨_,ay (enc:=(bu M r)) hI hM Ph (fun _=>rfl) rfl (fun _=>rfl),?_⟩;cbv)|apply And.intro);all_goals exact bw
              cbv;refine letE h fun N0 FW h=>⟨_,an hI hM FW,?_⟩;cbv;cases h;first|exact Or.inl rfl|exact bw
             clear hj;cbv;refine⟨?_,trivial⟩;refine⟨_,cq (enc:=ax) (x:=HJ) hM (ao _) rfl,?_⟩;cbv;refine⟨?_,trivial⟩;refine ah h fun Xa Kh h=>⟨_,ay (enc:=ax) hI hM Kh (fun _=>rfl) rfl (fun _=>rfl),?_⟩;cbv;refine⟨?_,trivial⟩;cases h;first|exact Or.inl rfl|exact bw
           cbv;refine lC h fun j50 j51 hj h=>?_;dsimp only at h;refine bk none [(8,(vi j50)),(0,.any),(7,.any)] [(12887004,.box [(vs yt.head),(vi yt.aM),(.gs r (.c 12887004 2) (M.map (bu M r) j51)),(vi 0),(.gs r (.c 12887004 4) (M.map ax re)),(.v .nilFunc)])] g nx ?_ ?_
           ·replace h:=hj;cbv;refine⟨?_,trivial⟩;refine ah h fun H7 SK h=>⟨fun _=>rfl,(.sl r (M.map ax H7)),g,nx,fun ρ=>by cbv;exact us hc (aY hI hM SK),?_⟩;cbv;refine⟨?_,trivial⟩;refine letE h fun n53 VM h=>⟨_,an hI hM VM,?_⟩;cbv;refine ah h fun IJ Pg h=>⟨_,_,eh (enc:=ax) hI hM Pg (by decide) rfl,?_⟩;cbv;refine letE h fun Ud Pf h=>?_;refine letE h fun n56 O6 h=>⟨_,_,iK (enc:=ax) hI hM Pf O6 rfl (fun _=>rfl) (fun _=>rfl),?_⟩;cbv;refine⟨_,an hI hM VM,?_⟩;cbv;refine si h (fun h=>?_) fun h=>?_
            ·cbv;refine ah h fun W9 Pe h=>?_;apply Exists.intro;refine⟨?_,_,rfl,?_⟩
             ·cbv;(repeat' first|exact .inl rfl|exact trivial|(refine⟨_,cq (enc:=(bu M r)) (x:=(⟨rF.kind,rF.name,rF.num,[]⟩:aD)) hM ⟨rfl,rfl,rfl,(aK hM),trivial⟩ rfl,?_⟩;cbv)|(refine⟨_,ay (enc:=(bu M r)) hI hM Pe (fun _=>rfl) rfl (fun _=>rfl),?_⟩;cbv)|apply And.intro);all_goals exact bw
             cbv;refine letE h fun WW Cq h=>⟨_,an hI hM Cq,?_⟩;cbv;cases h;first|exact Or.inl rfl|exact bw
            cbv;refine ah h fun u59 ag0 h=>?_;refine ah h fun Rn HC h=>?_;apply Exists.intro;refine⟨?_,_,rfl,?_⟩
            ·cbv;(repeat' first|exact .inl rfl|exact trivial|(refine⟨_,cq (enc:=(bu M r)) (x:=(⟨rF.kind,rF.name,rF.num,Ud⟩:aD)) hM ⟨rfl,rfl,rfl,(dG hM ag0),trivial⟩ rfl,?_⟩;cbv)|(refine⟨_,ay (enc:=(bu M r)) hI hM HC (fun _=>rfl) rfl (fun _=>rfl),?_⟩;cbv)|apply And.intro);all_goals exact bw
            cbv;refine letE h fun n61 Kc h=>⟨_,an hI hM Kc,?_⟩;cbv;cases h;first|exact Or.inl rfl|exact bw
           clear hj;cbv;refine⟨?_,trivial⟩;refine⟨_,cq (enc:=ax) (x:=j50) hM (ao _) rfl,?_⟩;cbv;refine⟨?_,trivial⟩;refine ah h fun PK FZ h=>⟨_,ay (enc:=ax) hI hM FZ (fun _=>rfl) rfl (fun _=>rfl),?_⟩;cbv;refine⟨?_,trivial⟩;cases h;first|exact Or.inl rfl|exact bw
          refine⟨?_,trivial⟩;refine ah h fun y32 SL h=>⟨_,_,_,us hc (dI hI hM SL),?_⟩;cbv;refine si h (fun h=>?_) fun h=>?_
          ·as_aux_lemma=>
            cbv;refine ah h fun yT FN h=>⟨_,_,_,us hc (oM hI hM FN),?_⟩;cbv;refine ah h fun k34 Wy h=>?_;refine ah h fun rm FQ h=>?_;refine ah h fun Ju FP h=>?_;apply Exists.intro;refine⟨?_,_,rfl,?_⟩
            ·cbv;(repeat' first|exact .inl rfl|exact trivial|((first|refine⟨_,⟨rfl,rfl,aL hI Wy⟩,?_⟩|refine⟨_,aL hI Wy,?_⟩);cbv)|(refine⟨_,_,rfl,bj hM FQ,rfl,?_⟩;cbv)|(refine⟨_,aq hM FP rfl,?_⟩;cbv)|apply And.intro);all_goals exact bw
            cbv;refine lC h fun HJ wh hj h=>?_;dsimp only at h;refine bk none [(8,(vi HJ)),(0,.any),(7,.any)] [(12887004,.box [(vs yt.head),(vi yt.aM),(.gs r (.c 12887004 2) (M.map (bu M r) wh)),(vi 0),(.gs r (.c 12887004 4) (M.map ax re)),(.v .nilFunc)])] g nx ?_ ?_
            ·replace h:=hj;cbv;refine⟨?_,trivial⟩;refine ah h fun Uv Vh h=>⟨fun _=>rfl,(.sl r (M.map ax Uv)),g,nx,fun ρ=>by cbv;exact us hc (aY hI hM Vh),?_⟩;cbv;refine⟨?_,trivial⟩;refine letE h fun n40 VP h=>⟨_,an hI hM VP,?_⟩;cbv;refine ah h fun Ue Pm h=>⟨_,_,eh (enc:=ax) hI hM Pm (by decide) rfl,?_⟩;cbv;refine letE h fun Ee Pl h=>?_;refine letE h fun n43 Kd h=>⟨_,_,iK (enc:=ax) hI hM Pl Kd rfl (fun _=>rfl) (fun _=>rfl),?_⟩;cbv;refine⟨_,an hI hM VP,?_⟩;cbv;refine si h (fun h=>?_) fun h=>?_
             ·cbv;refine ah h fun HG Cs h=>?_;apply Exists.intro;refine⟨?_,_,rfl,?_⟩
              ·cbv;(repeat' first|exact .inl rfl|exact trivial|(refine⟨_,cq (enc:=(bu M r)) (x:=(⟨rF.kind,Ju.name,rF.num,[]⟩:aD)) hM ⟨rfl,rfl,rfl,(aK hM),trivial⟩ rfl,?_⟩;cbv)|(refine⟨_,ay (enc:=(bu M r)) hI hM Cs (fun _=>rfl) rfl (fun _=>rfl),?_⟩;cbv)|apply And.intro);all_goals exact bw
              cbv;refine letE h fun MO Cr h=>⟨_,an hI hM Cr,?_⟩;cbv;cases h;first|exact Or.inl rfl|exact bw
             cbv;refine ah h fun u46 ag4 h=>?_;refine ah h fun PN Ph h=>?_;apply Exists.intro;refine⟨?_,_,rfl,?_⟩
             ·cbv;(repeat' first|exact .inl rfl|exact trivial|(refine⟨_,cq (enc:=(bu M r)) (x:=(⟨rF.kind,Ju.name,rF.num,Ee⟩:aD)) hM ⟨rfl,rfl,rfl,(dG hM ag4),trivial⟩ rfl,?_⟩;cbv)|(refine⟨_,ay (enc:=(bu M r)) hI hM Ph (fun _=>rfl) rfl (fun _=>rfl),?_⟩;cbv)|apply And.intro);all_goals exact bw
             cbv;refine letE h fun N0 FW h=>⟨_,an hI hM FW,?_⟩;cbv;cases h;first|exact Or.inl rfl|exact bw
            clear hj;cbv;refine⟨?_,trivial⟩;refine⟨_,cq (enc:=ax) (x:=HJ) hM (ao _) rfl,?_⟩;cbv;refine⟨?_,trivial⟩;refine ah h fun Xa Kh h=>⟨_,ay (enc:=ax) hI hM Kh (fun _=>rfl) rfl (fun _=>rfl),?_⟩;cbv;refine⟨?_,trivial⟩;cases h;first|exact Or.inl rfl|exact bw
          cbv;refine lC h fun j50 j51 hj h=>?_;dsimp only at h;refine bk none [(8,(vi j50)),(0,.any),(7,.any)] [(12887004,.box [(vs yt.head),(vi yt.aM),(.gs r (.c 12887004 2) (M.map (bu M r) j51)),(vi 0),(.gs r (.c 12887004 4) (M.map ax re)),(.v .nilFunc)])] g nx ?_ ?_
          ·replace h:=hj;cbv;refine⟨?_,trivial⟩;refine ah h fun H7 SK h=>⟨fun _=>rfl,(.sl r (M.map ax H7)),g,nx,fun ρ=>by cbv;exact us hc (aY hI hM SK),?_⟩;cbv;refine⟨?_,trivial⟩;refine letE h fun n53 VM h=>⟨_,an hI hM VM,?_⟩;cbv;refine ah h fun IJ Pg h=>⟨_,_,eh (enc:=ax) hI hM Pg (by decide) rfl,?_⟩;cbv;refine letE h fun Ud Pf h=>?_;refine letE h fun n56 O6 h=>⟨_,_,iK (enc:=ax) hI hM Pf O6 rfl (fun _=>rfl) (fun _=>rfl),?_⟩;cbv;refine⟨_,an hI hM VM,?_⟩;cbv;refine si h (fun h=>?_) fun h=>?_
           ·cbv;refine ah h fun W9 Pe h=>?_;apply Exists.intro;refine⟨?_,_,rfl,?_⟩
            ·cbv;(repeat' first|exact .inl rfl|exact trivial|(refine⟨_,cq (enc:=(bu M r)) (x:=(⟨rF.kind,rF.name,rF.num,[]⟩:aD)) hM ⟨rfl,rfl,rfl,(aK hM),trivial⟩ rfl,?_⟩;cbv)|(refine⟨_,ay (enc:=(bu M r)) hI hM Pe (fun _=>rfl) rfl (fun _=>rfl),?_⟩;cbv)|apply And.intro);all_goals exact bw
            cbv;refine letE h fun WW Cq h=>⟨_,an hI hM Cq,?_⟩;cbv;cases h;first|exact Or.inl rfl|exact bw
           cbv;refine ah h fun u59 ag0 h=>?_;refine ah h fun Rn HC h=>?_;apply Exists.intro;refine⟨?_,_,rfl,?_⟩
           ·cbv;(repeat' first|exact .inl rfl|exact trivial|(refine⟨_,cq (enc:=(bu M r)) (x:=(⟨rF.kind,rF.name,rF.num,Ud⟩:aD)) hM ⟨rfl,rfl,rfl,(dG hM ag0),trivial⟩ rfl,?_⟩;cbv)|(refine⟨_,ay (enc:=(bu M r)) hI hM HC (fun _=>rfl) rfl (fun _=>rfl),?_⟩;cbv)|apply And.intro);all_goals exact bw
           cbv;refine letE h fun n61 Kc h=>⟨_,an hI hM Kc,?_⟩;cbv;cases h;first|exact Or.inl rfl|exact bw
          clear hj;cbv;refine⟨?_,trivial⟩;refine⟨_,cq (enc:=ax) (x:=j50) hM (ao _) rfl,?_⟩;cbv;refine⟨?_,trivial⟩;refine ah h fun PK FZ h=>⟨_,ay (enc:=ax) hI hM FZ (fun _=>rfl) rfl (fun _=>rfl),?_⟩;cbv;refine⟨?_,trivial⟩;cases h;first|exact Or.inl rfl|exact bw
         clear hj;cbv;exact b8 (sV _ _ h)
       cbv;refine ah h fun x66 arH h=>?_;apply Exists.intro;refine⟨?_,_,rfl,?_⟩
       ·cbv;(repeat' first|exact .inl rfl|exact trivial|(refine⟨_,aq hM arH rfl,?_⟩;cbv)|apply And.intro);all_goals exact bw
       cbv;refine ah h fun k67 aaP h=>?_
       (first|refine⟨_,⟨rfl,rfl,aL hI aaP⟩,?_⟩|refine⟨_,aL hI aaP,?_⟩)
       cbv;refine ah h fun Zn Vp h=>⟨_,_,rfl,bj hM Vp,rfl,?_⟩;cbv;refine ah h fun Y7 S1 h=>⟨_,cE hI hM S1,?_⟩;cbv;refine ah h fun Zm OY h=>?_;refine ah h fun KB ahI h=>?_;refine ah h fun l72 amA h=>?_;apply Exists.intro;refine⟨?_,_,rfl,?_⟩
       ·cbv;(repeat' first|exact .inl rfl|exact trivial|(refine⟨_,_,_,⟨rfl,bj (enc:=(aA M r)) hM OY,rfl,rfl⟩,?_⟩;cbv)|(refine⟨_,cq (enc:=(aB M r)) (x:=(⟨yt.head,yt.aM,KE,x66⟩:ag)) hM (ao _) rfl,?_⟩;cbv)|(refine⟨_,ay (enc:=(aB M r)) hI hM ahI (fun _=>rfl) rfl (fun _=>rfl),?_⟩;cbv)|((first|refine⟨_,tQ (enc:=(aA M r)) hI hM OY amA (show 2<3 from by decide) rfl,?_⟩|refine⟨rfl,rfl,rfl,_,tQ (enc:=(aA M r)) hI hM OY amA (show 2<3 from by decide) rfl,?_⟩);cbv)|apply And.intro);all_goals exact bw
       cbv;(try(refine⟨rfl,?_⟩;cbv));refine nR hI ?_;cbv;exact b8 (sW _ _ h)
     cbv;exact b8 (kI _ _ h)
   cbv;(try(refine⟨rfl,?_⟩;cbv));refine letE h fun Y2 VJ h=>⟨_,VJ,?_⟩;cbv;refine lp h (fun(KA,Us)=>[(24,(vi Us))]) (fun(KA,Us)=>[(7,.box [(.gs r (.c 7 0) (M.map (aA M r) KA))])]) fun Rm6 m6 vj st h=>?_;obtain⟨KA,Us⟩:=st;dsimp only[xE]at h;cbv;refine si h (fun h=>?_) fun h=>(by cbv;cases h;exact fin);cbv;refine ah h fun k80 asq h=>⟨_,cE hI hM asq,?_⟩;cbv;refine ah h fun x81 arE h=>⟨_,_,rfl,bj hM arE,rfl,?_⟩;cbv;refine ah h fun k82 amD h=>?_
   (first|refine⟨_,⟨rfl,rfl,aL hI amD⟩,?_⟩|refine⟨_,aL hI amD,?_⟩)
   cbv;refine ah h fun x83 arC h=>⟨_,_,rfl,bj hM arC,rfl,?_⟩;cbv;refine si h (fun h=>?_) fun h=>?_
   ·cbv;refine⟨_,cq (enc:=(aA M r)) (x:=x81) hM (ao _) rfl,?_⟩;cbv;refine ah h fun BZ V5 h=>⟨_,ay (enc:=(aA M r)) hI hM V5 (fun _=>rfl) rfl (fun _=>rfl),?_⟩;cbv;exact b8 (vj _ _ h)
   cbv;exact b8 (vj _ _ h)
 cbv;cases h
end Ab
