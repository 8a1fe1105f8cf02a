/- PassesAll holds of all pairs of cores (no condition): a part of the proof: an abstract interpreter of the code that is proved sound, models of the functions, and laws of these models. -/
import Derived.Test.YtcdinjhcnhepeaaGreatDoorA02
import Derived.Test.YtcdinjhcnhepeaaGreatDoorA03
import Derived.Test.YtcdinjhcnhepeaaGreatDoorA04
set_option linter.unusedVariables false
set_option linter.unusedSimpArgs false
set_option linter.unusedSectionVars false
namespace Ab
open Go Go.Proofs.Tryz
set_option maxHeartbeats 100000000
set_option maxRecDepth 100000
variable{I:Pr}(hI:I=ak){M:Md}(hM:M= .ak){n nx r s p q u rl:Nat}{g:Nat→Option Ob}
 include hI hM
theorem BF{a0:ai}{v:ai}(h:se I M n a0=some v):
  cj 50 [(.agg (bd M p a0)),(.fn (.func 87) []),(.fn (.func 122) [])] (.agg (bd M r v)) g nx:=by
 refine Aq func50 c50 r UU Yi [1031,2097] 107 ntmps50 [.cell 6 24] hI (bF.cons (sB r) (bF.cons (XZ r) (bF.cons (wo r) (bF.cons (RH r) (bF.cons (wq r) (vK PP im)))))) 8 fun call hc=>?_;cbv;refine letE h fun n1 dw h=>⟨_,an hI hM dw,?_⟩;cbv;refine kU n (fun kS aZ=>?_);cbv;refine si h (fun h=>?_) fun h=>?_
 ·as_aux_lemma=>
   cbv;refine ah h fun x2 Q4 h=>⟨_,aq hM Q4 rfl,?_⟩;cbv;refine⟨_,RV (by rfl),?_⟩;cbv;refine ah h fun l3 Q6 h=>⟨sg hI Q6,_,_,zT (enc:=(aA M r)) hI hM Q6 (by have e0:=aK (enc:=(aB M r)) hM;simp only[aA,vi,vs,vb,cv,eJ,e0]),?_⟩;cbv;refine aZ _ (lpD h [9] (fun(l4,z5)=>[(19,(vi z5)),(20,.any)]) (fun(l4,z5)=>[(7,.box [(.jB (.s 31) (M.ln l4))]),(31,.ow (.sl 3) none (M.map (aA M r) l4))]) fun Dc m2 dm st h=>?_);obtain⟨l4,z5⟩:=st;dsimp only[fu]at h;cbv;refine si h (fun h=>?_) fun h=>?_
   ·cbv;refine ah h fun x6 ER h=>⟨_,aq hM ER rfl,?_⟩;cbv;refine⟨_,RV (by rfl),?_⟩;cbv;refine ah h fun l7 ql7 h=>?_
    (refine⟨_,_,F5 (enc:=(aA M r)) hI hM ql7 ?_,?_⟩;next=>have e0:=aK (enc:=(aB M r)) hM;simp only[aA,vi,vs,vb,cv,eJ,e0])
    cbv;exact b8 (dm _ _ h)
   cbv;intro l;cbv;refine letE h fun Ky Ke h=>⟨_,an hI hM Ke,?_⟩;cbv;refine lp h (fun(AD,EH)=>[(10,(vi EH))]) (fun(AD,EH)=>[(31,.ow (.sl 3) none (M.map (aA M r) AD))]) fun QA m3 kI st h=>?_;obtain⟨AD,EH⟩:=st;dsimp only[ed]at h;cbv;refine si h (fun h=>?_) fun h=>?_
   ·as_aux_lemma=>
     cbv;refine ah h fun Dk zR h=>⟨_,aq hM zR rfl,?_⟩;cbv;refine letE h fun MP Pd h=>⟨_,an hI hM Pd,?_⟩;cbv;refine lp h (fun(yX,lD)=>[(18,(vi lD))]) (fun(yX,lD)=>[(31,.ow (.sl 3) none (M.map (aA M r) yX))]) fun YG m4 sW st h=>?_;obtain⟨yX,lD⟩:=st;dsimp only[fp]at h;cbv;refine si h (fun h=>?_) fun h=>?_
     ·as_aux_lemma=>
       cbv;refine ah h fun sQ Co h=>⟨_,aq hM Co rfl,?_⟩;cbv;(try(refine⟨⟨rfl,rfl,rfl⟩,?_⟩;cbv));refine letE h fun rJ We h=>⟨_,⟨rfl,eR (enc:=ax) hI hM We rfl⟩,?_⟩;cbv;refine ah h fun u19 aaM h=>?_
       (first|refine⟨_,⟨aQ hI hM aaM,tP (enc:=ax) (l:=[EH,lD]) hI hM rfl⟩,?_⟩|refine⟨_,⟨rfl,aQ hI hM aaM,rfl,rfl,tP (enc:=ax) (l:=[EH,lD]) hI hM rfl⟩,?_⟩)
       cbv;(try(refine⟨rfl,?_⟩;cbv));refine ah h fun u20 SP h=>?_
       (first|refine⟨⟨rfl,aQ hI hM SP,rfl⟩,?_⟩|refine⟨⟨aQ hI hM SP,trivial⟩,?_⟩|refine⟨aQ hI hM SP,?_⟩)
       cbv;(try(refine⟨⟨by decide,by decide⟩,?_⟩;cbv));apply Exists.intro;refine⟨?_,_,rfl,?_⟩
       ·cbv;(repeat' first|exact .inl rfl|exact trivial|apply And.intro);all_goals exact bw
       cbv;refine letE h fun n21 asb h=>⟨_,an hI hM asb,?_⟩;cbv;refine lp h (fun(IL,yI,T9)=>[(56,(vi T9))]) (fun(IL,yI,T9)=>[(87004,.box [(vs sQ.head),(vi sQ.aM),(.gs r (.c 87004 2) (M.map (bu M r) IL)),(vi 0),(.gs r (.c 87004 4) (M.map ax yI)),(.v .nilFunc)])]) fun YF m5 sV st h=>?_;obtain⟨IL,yI,T9⟩:=st;dsimp only[fo]at h;cbv;refine si h (fun h=>?_) fun h=>?_
       ·as_aux_lemma=>
         cbv;refine ah h fun BY O2 h=>⟨_,aq hM O2 rfl,?_⟩;cbv;refine lC h fun j26 j27 hj h=>?_;dsimp only at h;refine bk none [(13,.any),(14,.any)] [(87004,.box [(vs sQ.head),(vi sQ.aM),(.gs r (.c 87004 2) (M.map (bu M r) j26)),(vi 0),(.gs r (.c 87004 4) (M.map ax j27)),(.v .nilFunc)])] g nx ?_ ?_
         ·replace h:=hj;cbv;refine⟨?_,?_⟩
          ·refine⟨?_,trivial⟩;refine lC h fun j28 j29 hj h=>?_;dsimp only at h;refine bk none [(6,(vi j28)),(0,.any),(5,.any)] [(87004,.box [(vs sQ.head),(vi sQ.aM),(.gs r (.c 87004 2) (M.map (bu M r) j29)),(vi 0),(.gs r (.c 87004 4) (M.map ax yI)),(.v .nilFunc)])] g nx ?_ ?_
           ·replace h:=hj;cbv;refine⟨?_,trivial⟩;refine ah h fun Lp Mi h=>⟨fun _=>rfl,(.sl r (M.map ax Lp)),g,nx,fun ρ=>by cbv;exact us hc (aY hI hM Mi),?_⟩;cbv;refine⟨?_,trivial⟩;refine letE h fun n31 Pb h=>⟨_,an hI hM Pb,?_⟩;cbv;refine ah h fun KD ahQ h=>⟨_,_,eh (enc:=ax) hI hM ahQ (by decide) rfl,?_⟩;cbv;refine letE h fun IK ahP h=>?_;refine letE h fun n34 ahr h=>⟨_,_,iK (enc:=ax) hI hM ahP ahr rfl (fun _=>rfl) (fun _=>rfl),?_⟩;cbv;refine⟨_,an hI hM Pb,?_⟩;cbv;refine si h (fun h=>?_) fun h=>?_
            ·cbv;refine ah h fun l35 S0 h=>?_;apply Exists.intro;refine⟨?_,_,rfl,?_⟩
             ·cbv;(repeat' first|exact .inl rfl|exact trivial|(refine⟨_,cq (enc:=(bu M r)) (x:=(⟨BY.kind,BY.name,BY.num,[]⟩:aD)) hM ⟨rfl,rfl,rfl,(aK hM),trivial⟩ rfl,?_⟩;cbv)|(refine⟨_,ay (enc:=(bu M r)) hI hM S0 (fun _=>rfl) rfl (fun _=>rfl),?_⟩;cbv)|apply And.intro);all_goals exact bw
             cbv;refine letE h fun n36 ahq h=>⟨_,an hI hM ahq,?_⟩;cbv;cases h;first|exact Or.inl rfl|exact bw
            cbv;refine ah h fun u37 ag5 h=>?_;refine ah h fun l38 Wd h=>?_;apply Exists.intro;refine⟨?_,_,rfl,?_⟩
            ·cbv;(repeat' first|exact .inl rfl|exact trivial|(refine⟨_,cq (enc:=(bu M r)) (x:=(⟨BY.kind,BY.name,BY.num,IK⟩:aD)) hM ⟨rfl,rfl,rfl,(dG hM ag5),trivial⟩ rfl,?_⟩;cbv)|(refine⟨_,ay (enc:=(bu M r)) hI hM Wd (fun _=>rfl) rfl (fun _=>rfl),?_⟩;cbv)|apply And.intro);all_goals exact bw
            cbv;refine letE h fun n39 ahp h=>⟨_,an hI hM ahp,?_⟩;cbv;cases h;first|exact Or.inl rfl|exact bw
           clear hj;cbv;refine⟨?_,trivial⟩;refine⟨_,cq (enc:=ax) (x:=j28) hM (ao _) rfl,?_⟩;cbv;refine⟨?_,trivial⟩;refine ah h fun l40 ahN h=>⟨_,ay (enc:=ax) hI hM ahN (fun _=>rfl) rfl (fun _=>rfl),?_⟩;cbv;refine⟨?_,trivial⟩;cases h;first|exact Or.inl rfl|exact bw
          refine⟨?_,trivial⟩;refine lC h fun j28 j29 hj h=>?_;dsimp only at h;refine bk none [(6,(vi j28)),(0,.any),(5,.any)] [(87004,.box [(vs sQ.head),(vi sQ.aM),(.gs r (.c 87004 2) (M.map (bu M r) j29)),(vi 0),(.gs r (.c 87004 4) (M.map ax yI)),(.v .nilFunc)])] g nx ?_ ?_
          ·replace h:=hj;cbv;refine⟨?_,trivial⟩;refine ah h fun Lp Mi h=>⟨fun _=>rfl,(.sl r (M.map ax Lp)),g,nx,fun ρ=>by cbv;exact us hc (aY hI hM Mi),?_⟩;cbv;refine⟨?_,trivial⟩;refine letE h fun n31 Pb h=>⟨_,an hI hM Pb,?_⟩;cbv;refine ah h fun KD ahQ h=>⟨_,_,eh (enc:=ax) hI hM ahQ (by decide) rfl,?_⟩;cbv;refine letE h fun IK ahP h=>?_;refine letE h fun n34 ahr h=>⟨_,_,iK (enc:=ax) hI hM ahP ahr rfl (fun _=>rfl) (fun _=>rfl),?_⟩;cbv;refine⟨_,an hI hM Pb,?_⟩;cbv;refine si h (fun h=>?_) fun h=>?_
           ·cbv;refine ah h fun l35 S0 h=>?_;apply Exists.intro;refine⟨?_,_,rfl,?_⟩
            ·cbv;(repeat' first|exact .inl rfl|exact trivial|(refine⟨_,cq (enc:=(bu M r)) (x:=(⟨BY.kind,BY.name,BY.num,[]⟩:aD)) hM ⟨rfl,rfl,rfl,(aK hM),trivial⟩ rfl,?_⟩;cbv)|(refine⟨_,ay (enc:=(bu M r)) hI hM S0 (fun _=>rfl) rfl (fun _=>rfl),?_⟩;cbv)|apply And.intro);all_goals exact bw
            cbv;refine letE h fun n36 ahq h=>⟨_,an hI hM ahq,?_⟩;cbv;cases h;first|exact Or.inl rfl|exact bw
           cbv;refine ah h fun u37 ag5 h=>?_;refine ah h fun l38 Wd h=>?_;apply Exists.intro;refine⟨?_,_,rfl,?_⟩
           ·cbv;(repeat' first|exact .inl rfl|exact trivial|(refine⟨_,cq (enc:=(bu M r)) (x:=(⟨BY.kind,BY.name,BY.num,IK⟩:aD)) hM ⟨rfl,rfl,rfl,(dG hM ag5),trivial⟩ rfl,?_⟩;cbv)|(refine⟨_,ay (enc:=(bu M r)) hI hM Wd (fun _=>rfl) rfl (fun _=>rfl),?_⟩;cbv)|apply And.intro);all_goals exact bw
           cbv;refine letE h fun n39 ahp h=>⟨_,an hI hM ahp,?_⟩;cbv;cases h;first|exact Or.inl rfl|exact bw
          clear hj;cbv;refine⟨?_,trivial⟩;refine⟨_,cq (enc:=ax) (x:=j28) hM (ao _) rfl,?_⟩;cbv;refine⟨?_,trivial⟩;refine ah h fun l40 ahN h=>⟨_,ay (enc:=ax) hI hM ahN (fun _=>rfl) rfl (fun _=>rfl),?_⟩;cbv;refine⟨?_,trivial⟩;cases h;first|exact Or.inl rfl|exact bw
         clear hj;cbv;exact b8 (sV _ _ h)
       cbv;refine ah h fun LJ J7 h=>?_;apply Exists.intro;refine⟨?_,_,rfl,?_⟩
       ·cbv;(repeat' first|exact .inl rfl|exact trivial|(refine⟨_,aq hM J7 rfl,?_⟩;cbv)|apply And.intro);all_goals exact bw
       cbv;refine ah h fun k45 amF h=>?_
       (first|refine⟨_,⟨rfl,rfl,aL hI amF⟩,?_⟩|refine⟨_,aL hI amF,?_⟩)
       cbv;refine ah h fun x46 arK h=>⟨_,_,rfl,bj hM arK,rfl,?_⟩;cbv;refine ah h fun k47 asw h=>⟨_,cE hI hM asw,?_⟩;cbv;refine ah h fun x48 OZ h=>?_;refine ah h fun Xa Kh h=>?_;refine ah h fun Ro SZ h=>?_;apply Exists.intro;refine⟨?_,_,rfl,?_⟩
       ·cbv;(repeat' first|exact .inl rfl|exact trivial|(refine⟨_,_,_,⟨rfl,bj (enc:=(aA M r)) hM OZ,rfl,rfl⟩,?_⟩;cbv)|(refine⟨_,cq (enc:=(aB M r)) (x:=(⟨sQ.head,sQ.aM,IL,LJ⟩:ag)) hM (ao _) rfl,?_⟩;cbv)|(refine⟨_,ay (enc:=(aB M r)) hI hM Kh (fun _=>rfl) rfl (fun _=>rfl),?_⟩;cbv)|((first|refine⟨_,tQ (enc:=(aA M r)) hI hM OZ SZ (show 2<3 from by decide) rfl,?_⟩|refine⟨rfl,rfl,rfl,_,tQ (enc:=(aA M r)) hI hM OZ SZ (show 2<3 from by decide) rfl,?_⟩);cbv)|apply And.intro);all_goals exact bw
       cbv;(try(refine⟨rfl,?_⟩;cbv));refine nR hI ?_;cbv;exact b8 (sW _ _ h)
     cbv;exact b8 (kI _ _ h)
   cbv;(try(refine⟨rfl,?_⟩;cbv));refine ah h fun u55 arX h=>?_;obtain rfl:=o5 h;cbv;(all_goals(repeat' apply And.intro));all_goals first|trivial|rfl|exact(aK hM)|exact(dG hM arX)
 cbv;cases h
 include hI hM
theorem HV{a0:ai}{v:ai}(h:vV I M n a0=some v):
  cj 77 [(.agg (bd M p a0))] (.agg (bd M r v)) g nx:=by
 refine cK func77 c77 r aft ajK [] 5 ntmps77 [.cell 2 24] hI fun call hc=>?_;cbv;refine ah h fun y1 c4 h=>⟨_,_,_,us hc (BF hI hM c4 (r:=r)),?_⟩;cbv;cbv;cases h;exact fin
end Ab
