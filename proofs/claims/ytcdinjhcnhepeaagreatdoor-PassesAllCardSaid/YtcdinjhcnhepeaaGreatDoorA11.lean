/- PassesAll holds of all pairs of cores (no condition): a part of the proof: an abstract interpreter of the code that is proved sound, models of the functions, and laws of these models. -/
import Derived.Test.YtcdinjhcnhepeaaGreatDoorA02
import Derived.Test.YtcdinjhcnhepeaaGreatDoorA04
import Derived.Test.YtcdinjhcnhepeaaGreatDoorA04c
set_option linter.unusedVariables false
set_option linter.unusedSimpArgs false
set_option linter.unusedSectionVars false
namespace Ab
open Go Go.Proofs.Tryz
set_option maxHeartbeats 100000000
set_option maxRecDepth 100000
variable{I:Pr}(hI:I=ak){M:Md}(hM:M= .ak){n nx r s p q u rl:Nat}{g:Nat→Option Ob}
 include hI hM
theorem BB{a0:ai}{a1:ag}{a2:Bool}{v:ag}(h:uG I M n a0 a1 a2=some v):
  cj 104 [(.agg (bd M r a0)),(.agg (aB M r a1)),(vb a2)] (.agg (aB M r v)) g nx:=by
 refine cK func104 av0 r aan ac5 [] 205 ntmps104 [.cell 6 61] hI fun call hc=>?_;cbv;refine letE h fun n1 dw h=>⟨_,an hI hM dw,?_⟩;cbv;refine ah h fun l2 Ea h=>⟨_,_,eh (enc:=ax) hI hM Ea (by decide) rfl,?_⟩;cbv;refine lp h (fun(l3,l4,z5)=>[(9,(vi z5))]) (fun(l3,l4,z5)=>[(7,.box [(vs a1.head),(vi a1.aM),(.gs r (.c 7 2) (M.map (bu M r) l4)),(vi 0)]),(26,.arr 1 (M.map ax l3))]) fun kS m1 aZ st h=>?_;obtain⟨l3,l4,z5⟩:=st;dsimp only[p7]at h;cbv;refine letE h fun n6 Q5 h=>⟨_,an hI hM Q5,?_⟩;cbv;refine si h (fun h=>?_) fun h=>?_
 ·as_aux_lemma=>
   cbv;refine ah h fun x7 zr h=>⟨_,aq hM zr rfl,?_⟩;cbv;refine ah h fun u8 qu8 h=>?_;refine ah h fun y9 Mh h=>⟨fun _=>rfl,(.agg (bu M r y9)),g,nx,fun ρ=>by cbv;refine us hc ((mJ (s:=ρ) hI hM Mh).wk ?_);exact⟨aF _,(dG hM qu8),trivial⟩,?_⟩;cbv;refine ah h fun wY tV h=>⟨_,_,_,us hc (sF hI hM tV),?_⟩;cbv;refine si h (fun h=>?_) fun h=>?_
   ·as_aux_lemma=>
     cbv;refine ah h fun wL zQ h=>?_;refine ah h fun wO vQ h=>?_;apply Exists.intro;refine⟨?_,_,rfl,?_⟩
     ·cbv;(repeat' first|exact .inl rfl|exact trivial|(refine⟨_,_,_,us hc (uf hI hM zQ),?_⟩;cbv)|(refine⟨_,aq hM vQ rfl,?_⟩;cbv)|apply And.intro);all_goals exact bw
     cbv;refine ah h fun sP xz h=>⟨_,_,_,us hc (HR hI hM xz),?_⟩;cbv;refine si h (fun h=>?_) fun h=>?_
     ·as_aux_lemma=>
       cbv;refine ah h fun wN FT h=>⟨_,aq hM FT rfl,?_⟩;cbv;refine lp h (fun(wX,lD)=>[(14,(vi wX)),(15,(vi lD))]) (fun _=>[]) fun Dc m2 dm st h=>?_;obtain⟨wX,lD⟩:=st;dsimp only[nc]at h;cbv;refine letE h fun WY Pc h=>⟨_,an hI hM Pc,?_⟩;cbv;refine si h (fun h=>?_) fun h=>?_
       ·cbv;refine ah h fun yU O3 h=>⟨_,aq hM O3 rfl,?_⟩;cbv;refine ah h fun LL AW h=>⟨_,fun hp=>aq hM (aE AW hp.1) rfl,?_⟩;cbv;refine si h (fun h=>?_) fun h=>?_
        ·cbv;exact b8 (dm _ _ h)
        cbv;exact b8 (dm _ _ h)
       cbv;refine letE h fun WX SV h=>⟨_,an hI hM SV,?_⟩;cbv;refine letE h fun n23 SU h=>⟨_,an hI hM SU,?_⟩;cbv;refine si h (fun h=>?_) fun h=>?_
       ·cbv;refine⟨_,an hI hM SV,?_⟩;cbv;refine ah h fun k24 Pq h=>⟨_,cE hI hM Pq,?_⟩;cbv;refine ah h fun BY O2 h=>?_;refine ah h fun KE ash h=>⟨_,dV hI hM O2 ash (by decide) rfl rfl,?_⟩;cbv;refine⟨_,cq (enc:=(bu M r)) (x:=y9) hM (ao _) rfl,?_⟩;cbv;refine ah h fun re ahR h=>⟨_,ay (enc:=(bu M r)) hI hM ahR (fun _=>rfl) rfl (fun _=>rfl),?_⟩;cbv;exact b8 (aZ _ _ h)
       cbv;refine letE h fun n28 ar7 h=>⟨_,an hI hM ar7,?_⟩;cbv;refine ah h fun Te ase h=>⟨_,_,eh (enc:=ax) hI hM ase (by decide) rfl,?_⟩;cbv;refine lp h (fun(Hp,HH,E9)=>[(17,(vi E9))]) (fun(Hp,HH,E9)=>[(7,.box [(vs a1.head),(vi a1.aM),(.gs r (.c 7 2) (M.map (bu M r) HH)),(vi 0)]),(121,.arr 1 (M.map ax Hp))]) fun QA m3 kI st h=>?_;obtain⟨Hp,HH,E9⟩:=st;dsimp only[na]at h;cbv;refine letE h fun n33 VQ h=>⟨_,an hI hM VQ,?_⟩;cbv;refine si h (fun h=>?_) fun h=>?_
       ·as_aux_lemma=>
         cbv;refine ah h fun x34 O0 h=>⟨_,aq hM O0 rfl,?_⟩;cbv;refine si h (fun h=>?_) fun h=>?_
         ·cbv;refine ah h fun rm FQ h=>?_;refine ah h fun k36 asy h=>?_;refine ah h fun x37 arN h=>?_;refine ah h fun l38 Wd h=>?_;apply Exists.intro;refine⟨?_,_,rfl,?_⟩
          ·cbv;(repeat' first|exact .inl rfl|exact trivial|(refine⟨_,aq hM O0 rfl,?_⟩;cbv)|(refine⟨_,aq hM FQ rfl,?_⟩;cbv)|(refine⟨_,cE hI hM asy,?_⟩;cbv)|(refine⟨_,dV hI hM arN Wd (by decide) rfl rfl,?_⟩;cbv)|apply And.intro);all_goals exact bw
          cbv;exact b8 (kI _ _ h)
         cbv;refine si h (fun h=>?_) fun h=>?_
         ·cbv;refine ah h fun x39 arM h=>?_;refine ah h fun x40 arL h=>?_;refine ah h fun Ol J8 h=>?_;refine ah h fun k42 asx h=>?_;refine ah h fun x43 Vq h=>?_;refine ah h fun HG Cs h=>?_;apply Exists.intro;refine⟨?_,_,rfl,?_⟩
          ·cbv;(repeat' first|exact .inl rfl|exact trivial|(refine⟨_,aq hM arM rfl,?_⟩;cbv)|(refine⟨_,aq hM arL rfl,?_⟩;cbv)|(refine⟨_,aq hM O0 rfl,?_⟩;cbv)|(refine⟨_,aq hM J8 rfl,?_⟩;cbv)|(refine⟨_,cE hI hM asx,?_⟩;cbv)|(refine⟨_,dV hI hM Vq Cs (by decide) rfl rfl,?_⟩;cbv)|apply And.intro);all_goals exact bw
          cbv;exact b8 (kI _ _ h)
         cbv;refine letE h fun MO Cr h=>⟨_,an hI hM Cr,?_⟩;cbv;refine ah h fun k46 Pp h=>⟨_,cE hI hM Pp,?_⟩;cbv;refine ah h fun Oj J6 h=>?_;refine ah h fun PM Wc h=>⟨_,dV hI hM J6 Wc (by decide) rfl rfl,?_⟩;cbv;refine ah h fun u49 arY h=>?_;refine ah h fun Zk agv h=>?_;refine ah h fun Y6 V9 h=>?_;apply Exists.intro;refine⟨?_,_,rfl,?_⟩
         ·cbv;(repeat' first|exact .inl rfl|exact trivial|(refine⟨_,aq hM O0 rfl,?_⟩;cbv)|(refine⟨fun _=>rfl,(.agg (bu M r Zk)),g,nx,fun ρ=>by cbv;refine us hc ((mJ (s:=ρ) hI hM agv).wk ?_);exact⟨aF _,(dG hM arY),trivial⟩,?_⟩;cbv)|(refine⟨_,cq (enc:=(bu M r)) (x:=Zk) hM (ao _) rfl,?_⟩;cbv)|(refine⟨_,ay (enc:=(bu M r)) hI hM V9 (fun _=>rfl) rfl (fun _=>rfl),?_⟩;cbv)|apply And.intro);all_goals exact bw
         cbv;exact b8 (kI _ _ h)
       cbv;refine ah h fun k55 aaQ h=>⟨_,cE hI hM aaQ,?_⟩;cbv;refine ah h fun x56 agN h=>⟨_,_,rfl,bj hM agN,rfl,?_⟩;cbv;refine ah h fun Xf Kl h=>⟨_,cE hI hM Kl,?_⟩;cbv;refine ah h fun YW J5 h=>?_;refine ah h fun MZ F0 h=>⟨_,dV hI hM J5 F0 (by decide) rfl rfl,?_⟩;cbv;exact b8 (aZ _ _ h)
     cbv;refine lp h (fun _=>[]) (fun _=>[]) fun YG m4 sW st h=>?_;dsimp only[xy]at h;cbv;refine⟨_,rfl,?_⟩;cbv;refine jR (oD hI (by decide)) ?_;cbv;refine letE h fun n60 SR h=>⟨_,an hI hM SR,?_⟩;cbv;refine letE h fun n61 Kc h=>⟨_,an hI hM Kc,?_⟩;cbv;refine si h (fun h=>?_) fun h=>?_
     ·cbv;refine⟨_,an hI hM SR,?_⟩;cbv;refine ah h fun k62 asv h=>⟨_,cE hI hM asv,?_⟩;cbv;refine ah h fun x63 arI h=>?_;refine ah h fun Tc Kg h=>⟨_,dV hI hM arI Kg (by decide) rfl rfl,?_⟩;cbv;refine⟨_,cq (enc:=(bu M r)) (x:=y9) hM (ao _) rfl,?_⟩;cbv;refine ah h fun Tb V8 h=>⟨_,ay (enc:=(bu M r)) hI hM V8 (fun _=>rfl) rfl (fun _=>rfl),?_⟩;cbv;exact b8 (aZ _ _ h)
     cbv;refine⟨_,rfl,?_⟩;cbv;refine ah h fun N1 Kf h=>⟨_,_,eh (enc:=ax) hI hM Kf (by decide) rfl,?_⟩;cbv;refine lp h (fun _=>[]) (fun _=>[]) fun YF m5 sV st h=>?_;dsimp only[DB]at h;cbv;refine⟨_,rfl,?_⟩;cbv;refine jR (oD hI (by decide)) ?_;cbv;refine ah h fun k67 aaP h=>⟨_,cE hI hM aaP,?_⟩;cbv;refine ah h fun Zn Vp h=>⟨_,_,rfl,bj hM Vp,rfl,?_⟩;cbv;refine ah h fun Y7 S1 h=>⟨_,cE hI hM S1,?_⟩;cbv;refine ah h fun Zm OY h=>?_;refine ah h fun KB ahI h=>⟨_,dV hI hM OY ahI (by decide) rfl rfl,?_⟩;cbv;exact b8 (aZ _ _ h)
   cbv;refine lp h (fun _=>[]) (fun _=>[]) fun Rm6 m6 vj st h=>?_;dsimp only[xx]at h;cbv;refine⟨_,rfl,?_⟩;cbv;refine jR (oD hI (by decide)) ?_;cbv;refine letE h fun n72 Mk h=>⟨_,an hI hM Mk,?_⟩;cbv;refine letE h fun n73 ar5 h=>⟨_,an hI hM ar5,?_⟩;cbv;refine si h (fun h=>?_) fun h=>?_
   ·cbv;refine⟨_,an hI hM Mk,?_⟩;cbv;refine ah h fun k74 ast h=>⟨_,cE hI hM ast,?_⟩;cbv;refine ah h fun x75 arG h=>?_;refine ah h fun l76 V6 h=>⟨_,dV hI hM arG V6 (by decide) rfl rfl,?_⟩;cbv;refine⟨_,cq (enc:=(bu M r)) (x:=y9) hM (ao _) rfl,?_⟩;cbv;refine ah h fun l77 ahG h=>⟨_,ay (enc:=(bu M r)) hI hM ahG (fun _=>rfl) rfl (fun _=>rfl),?_⟩;cbv;exact b8 (aZ _ _ h)
   cbv;refine⟨_,rfl,?_⟩;cbv;refine ah h fun KA Mn h=>⟨_,_,eh (enc:=ax) hI hM Mn (by decide) rfl,?_⟩;cbv;refine lp h (fun _=>[]) (fun _=>[]) fun Rm7 m7 zb st h=>?_;dsimp only[DA]at h;cbv;refine⟨_,rfl,?_⟩;cbv;refine jR (oD hI (by decide)) ?_;cbv;refine ah h fun k79 asr h=>⟨_,cE hI hM asr,?_⟩;cbv;refine ah h fun x80 arF h=>⟨_,_,rfl,bj hM arF,rfl,?_⟩;cbv;refine ah h fun k81 asp h=>⟨_,cE hI hM asp,?_⟩;cbv;refine ah h fun x82 arD h=>?_;refine ah h fun l83 asd h=>⟨_,dV hI hM arD asd (by decide) rfl rfl,?_⟩;cbv;exact b8 (aZ _ _ h)
 cbv;refine ah h fun k87 aso h=>⟨_,cE hI hM aso,?_⟩;cbv;refine ah h fun YV Vm h=>⟨_,_,rfl,bj hM Vm,rfl,?_⟩;cbv;cbv;cases h;exact fin
end Ab
