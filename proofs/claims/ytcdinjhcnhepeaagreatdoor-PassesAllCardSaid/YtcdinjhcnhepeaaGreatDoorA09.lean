/- PassesAll holds of all pairs of cores (no condition): a part of the proof: an abstract interpreter of the code that is proved sound, models of the functions, and laws of these models. -/
import Derived.Test.YtcdinjhcnhepeaaGreatDoorA02
import Derived.Test.YtcdinjhcnhepeaaGreatDoorA04
import Derived.Test.YtcdinjhcnhepeaaGreatDoorA03
set_option linter.unusedVariables false
set_option linter.unusedSimpArgs false
set_option linter.unusedSectionVars false
namespace Ab
open Go Go.Proofs.Tryz
set_option maxHeartbeats 100000000
set_option maxRecDepth 100000
variable{I:Pr}(hI:I=ak){M:Md}(hM:M= .ak){n nx r s p q u rl:Nat}{g:Nat→Option Ob}
 include hI hM
theorem Ep{a0:ai}{v:ai×Int}(h:rB I M n a0=some v):
  cj 11 [(.agg (bd M p a0))] (.gY [(.agg (bd M r v.1)),(vi v.2)]) g nx:=by
 refine Aq func11 c11 r agf akw [5] 16 ntmps11 [.cell 2 24,.tmp 3] hI (bF.cons (sB r) (bF.cons (wo r) (bF.cons (abZ r) (bF.cons (ab0 r) (bF.cons (wq r) (bF.cons (yO r) (vK PP im))))))) 8 fun call hc=>?_;cbv;refine ah h fun y1 c4 h=>⟨_,_,_,us hc (db hI hM c4),?_⟩;cbv;refine si h (fun h=>by cbv;cases h;exact fin) fun h=>?_;cbv;refine letE h fun n2 pf h=>⟨_,an hI hM pf,?_⟩;cbv;refine kU n (fun kS aZ=>?_);cbv;refine si h (fun h=>?_) fun h=>?_
 ·as_aux_lemma=>
   cbv;refine ah h fun x3 lG h=>⟨_,aq hM lG rfl,?_⟩;cbv;refine⟨_,RV (by rfl),?_⟩;cbv;refine ah h fun l4 NZ h=>⟨sg hI NZ,_,_,zT (enc:=(aA M r)) hI hM NZ (by have e0:=aK (enc:=(aB M r)) hM;simp only[aA,vi,vs,vb,cv,eJ,e0]),?_⟩;cbv;refine aZ _ (lpD h [50009] (fun(l5,z6)=>[(19,(vi z6)),(20,.any)]) (fun(l5,z6)=>[(50007,.box [(.jB (.s 50031) (M.ln l5))]),(50031,.ow (.sl 3) none (M.map (aA M r) l5))]) fun Dc m2 dm st h=>?_);obtain⟨l5,z6⟩:=st;dsimp only[iD]at h;cbv;refine si h (fun h=>?_) fun h=>?_
   ·cbv;refine ah h fun x7 zr h=>⟨_,aq hM zr rfl,?_⟩;cbv;refine⟨_,RV (by rfl),?_⟩;cbv;refine ah h fun l8 SW h=>?_
    (refine⟨_,_,F5 (enc:=(aA M r)) hI hM SW ?_,?_⟩;next=>have e0:=aK (enc:=(aB M r)) hM;simp only[aA,vi,vs,vb,cv,eJ,e0])
    cbv;exact b8 (dm _ _ h)
   cbv;intro l;cbv;refine letE h fun xa zS h=>⟨_,an hI hM zS,?_⟩;cbv;refine lp h (fun(ia,pa)=>[(10,(vi pa))]) (fun(ia,pa)=>[(5,.box [.any]),(50031,.ow (.sl 3) none (M.map (aA M r) ia))]) fun QA m3 kI st h=>?_;obtain⟨ia,pa⟩:=st;dsimp only[iC]at h;cbv;refine si h (fun h=>?_) fun h=>?_
   ·as_aux_lemma=>
     cbv;refine ah h fun wN FT h=>⟨_,aq hM FT rfl,?_⟩;cbv;refine letE h fun n15 aht h=>⟨_,an hI hM aht,?_⟩;cbv;refine lp h (fun(PQ,Ho)=>[(18,(vi Ho))]) (fun(PQ,Ho)=>[(5,.box [.any]),(50031,.ow (.sl 3) none (M.map (aA M r) PQ))]) fun YG m4 sW st h=>?_;obtain⟨PQ,Ho⟩:=st;dsimp only[iB]at h;cbv;refine si h (fun h=>?_) fun h=>?_
     ·as_aux_lemma=>
       cbv;refine ah h fun yU O3 h=>⟨_,aq hM O3 rfl,?_⟩;cbv;(try(refine⟨⟨rfl,rfl,rfl⟩,?_⟩;cbv));refine letE h fun KF ahS h=>⟨_,⟨rfl,eR (enc:=ax) hI hM ahS rfl⟩,?_⟩;cbv;refine ah h fun u20 SP h=>?_
       (first|refine⟨_,⟨aQ hI hM SP,tP (enc:=ax) (l:=[pa,Ho]) hI hM rfl⟩,?_⟩|refine⟨_,⟨rfl,aQ hI hM SP,rfl,rfl,tP (enc:=ax) (l:=[pa,Ho]) hI hM rfl⟩,?_⟩)
       cbv;(try(refine⟨rfl,?_⟩;cbv));refine ah h fun u21 O5 h=>?_
       (first|refine⟨⟨rfl,aQ hI hM O5,rfl⟩,?_⟩|refine⟨⟨aQ hI hM O5,trivial⟩,?_⟩|refine⟨aQ hI hM O5,?_⟩)
       cbv;(try(refine⟨⟨by decide,by decide⟩,?_⟩;cbv));refine⟨_,Rd (enc:=(GV (cf M r) (fun y=>[AV.sl r (M.map ax y)]))) hM,?_⟩;cbv;apply Exists.intro;refine⟨?_,_,rfl,?_⟩
       ·cbv;(repeat' first|exact .inl rfl|exact trivial|apply And.intro);all_goals exact bw
       cbv;refine letE h fun WX SV h=>⟨_,an hI hM SV,?_⟩;cbv;refine lp h (fun(yI,N2,HI,EG)=>[(56,(vi EG))]) (fun(yI,N2,HI,EG)=>[(12856004,.ow (.mp [.int .i64,.str,.int .i64] none) none (M.map (GV (cf M r) (fun y=>[AV.sl r (M.map ax y)])) HI)),(12856006,.box [(vs yU.head),(vi yU.aM),(.gs r (.c 12856006 2) (M.map (bu M r) yI)),(vi 0),(.gs r (.c 12856006 4) (M.map ax N2)),(.v .nilFunc)])]) fun YF m5 sV st h=>?_;obtain⟨yI,N2,HI,EG⟩:=st;dsimp only[iA]at h;cbv;refine si h (fun h=>?_) fun h=>?_
       ·as_aux_lemma=>
         cbv;refine ah h fun tS agS h=>⟨_,aq hM agS rfl,?_⟩;cbv;refine apk h fun v9 j29 j30 hj h=>?_;dsimp only at h;refine bk none [(13,.any),(14,.any)] [(12856004,.ow (.mp [.int .i64,.str,.int .i64] none) none (M.map (GV (cf M r) (fun y=>[AV.sl r (M.map ax y)])) v9)),(12856006,.box [(vs yU.head),(vi yU.aM),(.gs r (.c 12856006 2) (M.map (bu M r) j29)),(vi 0),(.gs r (.c 12856006 4) (M.map ax j30)),(.v .nilFunc)])] g nx ?_ ?_
         ·replace h:=hj;cbv;refine⟨?_,?_⟩
          ·refine⟨?_,trivial⟩;refine ah h fun Od SM h=>?_;refine bk none [(8,(.ptr (.s 12857008) 0)),(9,(.sl r (M.map ax Od)))] [(12857008,.box [(vi tS.kind),(vs tS.name),(vi tS.num)])] g nx ?_ ?_
           ·cbv;(repeat' first|exact .inl rfl|exact trivial|(refine⟨fun _=>rfl,(.sl r (M.map ax Od)),g,nx,fun ρ=>by cbv;exact us hc (aY hI hM SM),?_⟩;cbv)|apply And.intro);all_goals exact bw
           cbv;refine letE h fun Zo Vr h=>⟨_,⟨rfl,rfl,rfl,W7 (f:=(cf M r)) (g:=(fun y=>[AV.sl r (M.map ax y)])) hM (n:=3) (fun _=>rfl) (dT M r) (av:=(fun y=>AV.sl r (M.map ax y))) (fun _=>rfl) Vr rfl (aK hM)⟩,?_⟩;cbv;refine letE h fun n33 VQ h=>⟨_,an hI hM VQ,?_⟩;cbv;refine lp h (fun EF=>[(29,(vi EF))]) (fun EF=>[]) fun Rm6 m6 vj EF h=>?_;dsimp only[fH]at h;cbv;refine si h (fun h=>?_) fun h=>?_
           ·cbv;refine ah h fun rm FQ h=>⟨_,aq hM FQ rfl,?_⟩;cbv;refine ah h fun Ju FP h=>⟨_,aq hM FP rfl,?_⟩;cbv;refine letE h fun b37 ahW h=>⟨_,X7 (f:=(cf M r)) ahW rfl (dT M r) (fun _=>rfl) rfl rfl,?_⟩;cbv;refine ah h fun y38 Vi h=>⟨_,fun hp=>us hc (dQ hI hM (aE Vi hp.1)),?_⟩;cbv;refine si h (fun h=>?_) fun h=>?_
            ·cbv;refine⟨?_,trivial⟩;refine⟨_,cq (enc:=ax) (x:=rm) hM (ao _) rfl,?_⟩;cbv;refine⟨?_,trivial⟩;refine ah h fun Ue Pm h=>⟨_,ay (enc:=ax) hI hM Pm (fun _=>rfl) rfl (fun _=>rfl),?_⟩;cbv;refine⟨?_,trivial⟩;cases h;first|exact Or.inl rfl|exact bw
            cbv;exact b8 (vj _ _ h)
           cbv;refine letE h fun n43 Kd h=>⟨_,an hI hM Kd,?_⟩;cbv;refine ah h fun HG Cs h=>⟨_,_,eh (enc:=ax) hI hM Cs (by decide) rfl,?_⟩;cbv;refine letE h fun M0 Pj h=>?_;refine letE h fun Y3 O9 h=>⟨_,_,iK (enc:=ax) hI hM Pj O9 rfl (fun _=>rfl) (fun _=>rfl),?_⟩;cbv;refine⟨_,an hI hM Kd,?_⟩;cbv;refine si h (fun h=>?_) fun h=>?_
           ·cbv;refine ah h fun PN Ph h=>?_;apply Exists.intro;refine⟨?_,_,rfl,?_⟩
            ·cbv;(repeat' first|exact .inl rfl|exact trivial|(refine⟨_,cq (enc:=(bu M r)) (x:=(⟨tS.kind,tS.name,tS.num,[]⟩:aD)) hM ⟨rfl,rfl,rfl,(aK hM),trivial⟩ rfl,?_⟩;cbv)|(refine⟨_,ay (enc:=(bu M r)) hI hM Ph (fun _=>rfl) rfl (fun _=>rfl),?_⟩;cbv)|apply And.intro);all_goals exact bw
            cbv;refine letE h fun N0 FW h=>⟨_,an hI hM FW,?_⟩;cbv;refine⟨_,cq (enc:=ax) (x:=(I.wrap .i64 (I.sub N0 1))) hM (ao _) rfl,?_⟩;cbv;refine Rm h fun Ro k51 l52 ahb h=>?_;dsimp only at h;refine⟨_,_,_,_,⟨rfl,rfl,rfl,RM (f:=(cf M r)) (en:=ax) hI hM (n:=3) (fun _=>rfl) (dT M r) ahb rfl⟩,fun z53=>?_⟩;cbv;refine ah h fun IJ Pg h=>⟨_,ay (enc:=ax) hI hM Pg (fun _=>rfl) rfl (fun _=>rfl),?_⟩;cbv;refine ah h fun Ud Pf h=>⟨_,RN (f:=(cf M r)) (en:=ax) hI hM (kz:=3) (fun _=>rfl) Pf,?_⟩;cbv;refine⟨?_,trivial⟩;refine⟨_,cq (enc:=ax) (x:=(I.wrap .i64 (I.sub N0 1))) hM (ao _) rfl,?_⟩;cbv;refine⟨?_,trivial⟩;refine ah h fun PL HD h=>⟨_,ay (enc:=ax) hI hM HD (fun _=>rfl) rfl (fun _=>rfl),?_⟩;cbv;refine⟨?_,trivial⟩;cases h;first|exact Or.inl rfl|exact bw
           cbv;refine ah h fun u57 ag1 h=>?_;refine ah h fun l58 ahL h=>?_;apply Exists.intro;refine⟨?_,_,rfl,?_⟩
           ·cbv;(repeat' first|exact .inl rfl|exact trivial|(refine⟨_,cq (enc:=(bu M r)) (x:=(⟨tS.kind,tS.name,tS.num,M0⟩:aD)) hM ⟨rfl,rfl,rfl,(dG hM ag1),trivial⟩ rfl,?_⟩;cbv)|(refine⟨_,ay (enc:=(bu M r)) hI hM ahL (fun _=>rfl) rfl (fun _=>rfl),?_⟩;cbv)|apply And.intro);all_goals exact bw
           cbv;refine letE h fun n59 ahm h=>⟨_,an hI hM ahm,?_⟩;cbv;refine⟨_,cq (enc:=ax) (x:=(I.wrap .i64 (I.sub n59 1))) hM (ao _) rfl,?_⟩;cbv;refine Rm h fun l61 k62 l63 aha h=>?_;dsimp only at h;refine⟨_,_,_,_,⟨rfl,rfl,rfl,RM (f:=(cf M r)) (en:=ax) hI hM (n:=3) (fun _=>rfl) (dT M r) aha rfl⟩,fun z64=>?_⟩;cbv;refine ah h fun Tb V8 h=>⟨_,ay (enc:=ax) hI hM V8 (fun _=>rfl) rfl (fun _=>rfl),?_⟩;cbv;refine ah h fun N1 Kf h=>⟨_,RN (f:=(cf M r)) (en:=ax) hI hM (kz:=3) (fun _=>rfl) Kf,?_⟩;cbv;refine⟨?_,trivial⟩;refine⟨_,cq (enc:=ax) (x:=(I.wrap .i64 (I.sub n59 1))) hM (ao _) rfl,?_⟩;cbv;refine⟨?_,trivial⟩;refine ah h fun l67 ahK h=>⟨_,ay (enc:=ax) hI hM ahK (fun _=>rfl) rfl (fun _=>rfl),?_⟩;cbv;refine⟨?_,trivial⟩;cases h;first|exact Or.inl rfl|exact bw
          refine⟨?_,trivial⟩;refine ah h fun Od SM h=>?_;refine bk none [(8,(.ptr (.s 12857008) 0)),(9,(.sl r (M.map ax Od)))] [(12857008,.box [(vi tS.kind),(vs tS.name),(vi tS.num)])] g nx ?_ ?_
          ·cbv;(repeat' first|exact .inl rfl|exact trivial|(refine⟨fun _=>rfl,(.sl r (M.map ax Od)),g,nx,fun ρ=>by cbv;exact us hc (aY hI hM SM),?_⟩;cbv)|apply And.intro);all_goals exact bw
          cbv;refine letE h fun Zo Vr h=>⟨_,⟨rfl,rfl,rfl,W7 (f:=(cf M r)) (g:=(fun y=>[AV.sl r (M.map ax y)])) hM (n:=3) (fun _=>rfl) (dT M r) (av:=(fun y=>AV.sl r (M.map ax y))) (fun _=>rfl) Vr rfl (aK hM)⟩,?_⟩;cbv;refine letE h fun n33 VQ h=>⟨_,an hI hM VQ,?_⟩;cbv;refine lp h (fun EF=>[(29,(vi EF))]) (fun EF=>[]) fun Rm6 m6 vj EF h=>?_;dsimp only[fH]at h;cbv;refine si h (fun h=>?_) fun h=>?_
          ·cbv;refine ah h fun rm FQ h=>⟨_,aq hM FQ rfl,?_⟩;cbv;refine ah h fun Ju FP h=>⟨_,aq hM FP rfl,?_⟩;cbv;refine letE h fun b37 ahW h=>⟨_,X7 (f:=(cf M r)) ahW rfl (dT M r) (fun _=>rfl) rfl rfl,?_⟩;cbv;refine ah h fun y38 Vi h=>⟨_,fun hp=>us hc (dQ hI hM (aE Vi hp.1)),?_⟩;cbv;refine si h (fun h=>?_) fun h=>?_
           ·cbv;refine⟨?_,trivial⟩;refine⟨_,cq (enc:=ax) (x:=rm) hM (ao _) rfl,?_⟩;cbv;refine⟨?_,trivial⟩;refine ah h fun Ue Pm h=>⟨_,ay (enc:=ax) hI hM Pm (fun _=>rfl) rfl (fun _=>rfl),?_⟩;cbv;refine⟨?_,trivial⟩;cases h;first|exact Or.inl rfl|exact bw
           cbv;exact b8 (vj _ _ h)
          cbv;refine letE h fun n43 Kd h=>⟨_,an hI hM Kd,?_⟩;cbv;refine ah h fun HG Cs h=>⟨_,_,eh (enc:=ax) hI hM Cs (by decide) rfl,?_⟩;cbv;refine letE h fun M0 Pj h=>?_;refine letE h fun Y3 O9 h=>⟨_,_,iK (enc:=ax) hI hM Pj O9 rfl (fun _=>rfl) (fun _=>rfl),?_⟩;cbv;refine⟨_,an hI hM Kd,?_⟩;cbv;refine si h (fun h=>?_) fun h=>?_
          ·cbv;refine ah h fun PN Ph h=>?_;apply Exists.intro;refine⟨?_,_,rfl,?_⟩
           ·cbv;(repeat' first|exact .inl rfl|exact trivial|(refine⟨_,cq (enc:=(bu M r)) (x:=(⟨tS.kind,tS.name,tS.num,[]⟩:aD)) hM ⟨rfl,rfl,rfl,(aK hM),trivial⟩ rfl,?_⟩;cbv)|(refine⟨_,ay (enc:=(bu M r)) hI hM Ph (fun _=>rfl) rfl (fun _=>rfl),?_⟩;cbv)|apply And.intro);all_goals exact bw
           cbv;refine letE h fun N0 FW h=>⟨_,an hI hM FW,?_⟩;cbv;refine⟨_,cq (enc:=ax) (x:=(I.wrap .i64 (I.sub N0 1))) hM (ao _) rfl,?_⟩;cbv;refine Rm h fun Ro k51 l52 ahb h=>?_;dsimp only at h;refine⟨_,_,_,_,⟨rfl,rfl,rfl,RM (f:=(cf M r)) (en:=ax) hI hM (n:=3) (fun _=>rfl) (dT M r) ahb rfl⟩,fun z53=>?_⟩;cbv;refine ah h fun IJ Pg h=>⟨_,ay (enc:=ax) hI hM Pg (fun _=>rfl) rfl (fun _=>rfl),?_⟩;cbv;refine ah h fun Ud Pf h=>⟨_,RN (f:=(cf M r)) (en:=ax) hI hM (kz:=3) (fun _=>rfl) Pf,?_⟩;cbv;refine⟨?_,trivial⟩;refine⟨_,cq (enc:=ax) (x:=(I.wrap .i64 (I.sub N0 1))) hM (ao _) rfl,?_⟩;cbv;refine⟨?_,trivial⟩;refine ah h fun PL HD h=>⟨_,ay (enc:=ax) hI hM HD (fun _=>rfl) rfl (fun _=>rfl),?_⟩;cbv;refine⟨?_,trivial⟩;cases h;first|exact Or.inl rfl|exact bw
          cbv;refine ah h fun u57 ag1 h=>?_;refine ah h fun l58 ahL h=>?_;apply Exists.intro;refine⟨?_,_,rfl,?_⟩
          ·cbv;(repeat' first|exact .inl rfl|exact trivial|(refine⟨_,cq (enc:=(bu M r)) (x:=(⟨tS.kind,tS.name,tS.num,M0⟩:aD)) hM ⟨rfl,rfl,rfl,(dG hM ag1),trivial⟩ rfl,?_⟩;cbv)|(refine⟨_,ay (enc:=(bu M r)) hI hM ahL (fun _=>rfl) rfl (fun _=>rfl),?_⟩;cbv)|apply And.intro);all_goals exact bw
          cbv;refine letE h fun n59 ahm h=>⟨_,an hI hM ahm,?_⟩;cbv;refine⟨_,cq (enc:=ax) (x:=(I.wrap .i64 (I.sub n59 1))) hM (ao _) rfl,?_⟩;cbv;refine Rm h fun l61 k62 l63 aha h=>?_;dsimp only at h;refine⟨_,_,_,_,⟨rfl,rfl,rfl,RM (f:=(cf M r)) (en:=ax) hI hM (n:=3) (fun _=>rfl) (dT M r) aha rfl⟩,fun z64=>?_⟩;cbv;refine ah h fun Tb V8 h=>⟨_,ay (enc:=ax) hI hM V8 (fun _=>rfl) rfl (fun _=>rfl),?_⟩;cbv;refine ah h fun N1 Kf h=>⟨_,RN (f:=(cf M r)) (en:=ax) hI hM (kz:=3) (fun _=>rfl) Kf,?_⟩;cbv;refine⟨?_,trivial⟩;refine⟨_,cq (enc:=ax) (x:=(I.wrap .i64 (I.sub n59 1))) hM (ao _) rfl,?_⟩;cbv;refine⟨?_,trivial⟩;refine ah h fun l67 ahK h=>⟨_,ay (enc:=ax) hI hM ahK (fun _=>rfl) rfl (fun _=>rfl),?_⟩;cbv;refine⟨?_,trivial⟩;cases h;first|exact Or.inl rfl|exact bw
         clear hj;cbv;exact b8 (sV _ _ h)
       cbv;refine ah h fun x72 Vo h=>?_;apply Exists.intro;refine⟨?_,_,rfl,?_⟩
       ·cbv;(repeat' first|exact .inl rfl|exact trivial|(refine⟨_,aq hM Vo rfl,?_⟩;cbv)|apply And.intro);all_goals exact bw
       cbv;refine ah h fun k73 amE h=>?_
       (first|refine⟨_,⟨rfl,rfl,aL hI amE⟩,?_⟩|refine⟨_,aL hI amE,?_⟩)
       cbv;refine ah h fun x74 Vn h=>⟨_,_,rfl,bj hM Vn,rfl,?_⟩;cbv;refine ah h fun k75 ass h=>⟨_,cE hI hM ass,?_⟩;cbv;refine ah h fun x76 OX h=>?_;refine ah h fun l77 ahG h=>?_;refine ah h fun KA Mn h=>?_;apply Exists.intro;refine⟨?_,_,rfl,?_⟩
       ·cbv;(repeat' first|exact .inl rfl|exact trivial|(refine⟨_,_,_,⟨rfl,bj (enc:=(aA M r)) hM OX,rfl,rfl⟩,?_⟩;cbv)|(refine⟨_,cq (enc:=(aB M r)) (x:=(⟨yU.head,yU.aM,yI,x72⟩:ag)) hM (ao _) rfl,?_⟩;cbv)|(refine⟨_,ay (enc:=(aB M r)) hI hM ahG (fun _=>rfl) rfl (fun _=>rfl),?_⟩;cbv)|((first|refine⟨_,tQ (enc:=(aA M r)) hI hM OX Mn (show 2<3 from by decide) rfl,?_⟩|refine⟨rfl,rfl,rfl,_,tQ (enc:=(aA M r)) hI hM OX Mn (show 2<3 from by decide) rfl,?_⟩);cbv)|apply And.intro);all_goals exact bw
       cbv;(try(refine⟨rfl,?_⟩;cbv));refine nR hI ?_;cbv;exact b8 (sW _ _ h)
     cbv;exact b8 (kI _ _ h)
   cbv;(try(refine⟨rfl,?_⟩;cbv));refine ah h fun u83 arU h=>?_;obtain rfl:=o5 h;cbv;(all_goals(repeat' apply And.intro));all_goals first|trivial|rfl|exact(aK hM)|exact(dG hM arU)
 cbv;cases h
end Ab
