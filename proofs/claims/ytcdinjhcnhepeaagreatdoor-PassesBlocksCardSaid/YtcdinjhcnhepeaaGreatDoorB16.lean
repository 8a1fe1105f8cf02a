/- PassesBlocks holds of all cores and names (no condition): a part of the proof: an abstract interpreter of the code that is proved sound, models of the functions, and laws of these models. -/
import Derived.Test.YtcdinjhcnhepeaaGreatDoorB03
import Derived.Test.YtcdinjhcnhepeaaGreatDoorB04
import Derived.Test.YtcdinjhcnhepeaaGreatDoorB06
set_option linter.unusedVariables false
set_option linter.unusedSimpArgs false
set_option linter.unusedSectionVars false
namespace Ab
open Go Go.Proofs.Tryz
set_option maxHeartbeats 100000000
set_option maxRecDepth 100000
variable{I:Pr}(hI:I=al){M:Md}(hM:M= .al){n nx r s p q u rl:Nat}{g:Nat→Option Ob}
 include hI hM
theorem tQ{a0:af}{v:List Int}(h:jq I M n a0=some v):
  cv 26 [(.agg (aZ M r a0))] (.sl r (M.map aq v)) g nx:=by
 refine cS func26 c26 r afC aj0 [7018] 149 ntmps26 [.tmp 2] hI fun call hc=>?_;cbv;refine letE h fun n1 dJ h=>⟨_,an hI hM dJ,?_⟩;cbv;refine ag h fun l2 R7 h=>⟨_,_,ahP (enc:=bV) hI hM R7,?_⟩;cbv;refine lp h (fun(l3,z4)=>[(5,(vi z4))]) (fun(l3,z4)=>[(18,.ow (.g2 1 (M.map (fun y=>M.map bV y) l3)) none [])]) fun mK m1 aW st h=>?_;obtain⟨l3,z4⟩:=st;dsimp only[dB]at h;cbv;refine si h (fun h=>?_) fun h=>?_
 ·as_aux_lemma=>
   cbv;refine ag h fun l5 ql5 h=>⟨_,_,gf (enc:=bV) hI hM ql5 (by decide) rfl,?_⟩;cbv;refine ag h fun k6 qk6 h=>⟨_,gG hI hM qk6,?_⟩;cbv;refine ag h fun u7 qu7 h=>?_;refine ag h fun l8 RZ h=>⟨_,aby (enc:=bV) hI hM qu7 RZ,?_⟩;cbv;refine lp h (fun(l9,xV)=>[(6,(vi xV))]) (fun(l9,xV)=>[(18,.ow (.g2 1 (M.map (fun y=>M.map bV y) l9)) none [])]) fun D0 m2 eM st h=>?_;obtain⟨l9,xV⟩:=st;dsimp only[eL]at h;cbv;refine si h (fun h=>?_) fun h=>?_
   ·cbv;refine ag h fun k11 aat h=>?_;refine ag h fun gJ ahz h=>?_;refine ag h fun GU JF h=>?_;refine ag h fun yp Ft h=>?_;refine ag h fun vw Fs h=>?_;refine letE h fun CW BP h=>?_;refine ag h fun pA zb h=>?_;refine letE h fun OU Ov h=>?_;refine ag h fun k19 ass h=>?_;refine ag h fun Qw JN h=>?_;apply Exists.intro;refine⟨?_,_,rfl,?_⟩
    ·cbv;(repeat' first|exact .inl rfl|exact trivial|(refine⟨_,gG hI hM aat,?_⟩;cbv)|(refine⟨_,Es (enc:=bV) hI hM ahz,?_⟩;cbv)|(refine⟨_,ao hM JF rfl,?_⟩;cbv)|(refine⟨_,ao hM Ft rfl,?_⟩;cbv)|(refine⟨_,fun hp=>ao hM (aD Fs hp.1) rfl,?_⟩;cbv)|(refine⟨_,an hI hM BP,?_⟩;cbv)|(refine⟨_,fun hp=>ao hM (aD zb hp.1) rfl,?_⟩;cbv)|(refine⟨_,an hI hM Ov,?_⟩;cbv)|(refine⟨_,gG hI hM ass,?_⟩;cbv)|(refine⟨_,QN (enc:=bV) hI hM JN (fun _=>rfl) rfl (by decide),?_⟩;cbv)|apply And.intro);all_goals exact bn
    cbv;exact bY (eM _ _ h)
   cbv;exact bY (aW _ _ h)
 cbv;refine lp h (fun(Ep,zU)=>[(7,(vb zU))]) (fun(Ep,zU)=>[(18,.ow (.g2 1 (M.map (fun y=>M.map bV y) Ep)) none [])]) fun Nl m3 jO st h=>?_;obtain⟨Ep,zU⟩:=st;dsimp only[eK]at h;cbv;refine si h (fun h=>?_) fun h=>?_
 ·as_aux_lemma=>
   cbv;refine lp h (fun(nV,Dv,rv)=>[(7,(vb Dv)),(8,(vi rv)),(70,.any)]) (fun(nV,Dv,rv)=>[(18,.ow (.g2 1 (M.map (fun y=>M.map bV y) nV)) none [])]) fun Tf m4 ni st h=>?_;obtain⟨nV,Dv,rv⟩:=st;dsimp only[dA]at h;cbv;refine si h (fun h=>?_) fun h=>?_
   ·as_aux_lemma=>
     cbv;refine lp h (fun(Mm,z31,G0)=>[(7,(vb z31)),(9,(vi G0)),(73,.any)]) (fun(Mm,z31,G0)=>[(18,.ow (.g2 1 (M.map (fun y=>M.map bV y) Mm)) none [])]) fun TG m5 oX st h=>?_;obtain⟨Mm,z31,G0⟩:=st;dsimp only[dz]at h;cbv;refine si h (fun h=>?_) fun h=>?_
     ·as_aux_lemma=>
       cbv;refine lp h (fun(vX,vV,z35)=>[(7,(vb z35)),(10,(vi vV))]) (fun(vX,vV,z35)=>[(18,.ow (.g2 1 (M.map (fun y=>M.map bV y) vX)) none [])]) fun Rm6 m6 rG st h=>?_;obtain⟨vX,vV,z35⟩:=st;dsimp only[cn]at h;cbv;refine ag h fun k36 amu h=>⟨_,gG hI hM amu,?_⟩;cbv;refine ag h fun KR R5 h=>⟨_,Es (enc:=bV) hI hM R5,?_⟩;cbv;refine ag h fun k38 amt h=>⟨_,gG hI hM amt,?_⟩;cbv;refine ag h fun x39 arH h=>⟨_,_,QP (enc:=bV) hM arH,rfl,?_⟩;cbv;refine ag h fun x40 arG h=>⟨_,fun hp=>ao hM (aD arG hp.1) rfl,?_⟩;cbv;refine letE h fun YL Ot h=>⟨_,an hI hM Ot,?_⟩;cbv;refine si h (fun h=>?_) fun h=>?_
       ·cbv;refine ag h fun x42 UQ h=>?_;refine ag h fun x43 UP h=>?_;refine ag h fun KO Fp h=>?_;refine ag h fun x45 UO h=>?_;refine ag h fun u46 U6 h=>?_;refine ag h fun y47 afZ h=>?_;apply Exists.intro;refine⟨?_,_,rfl,?_⟩
        ·cbv;(repeat' first|exact .inl rfl|exact trivial|(refine⟨_,ao hM UQ rfl,?_⟩;cbv)|(refine⟨_,ao hM UP rfl,?_⟩;cbv)|(refine⟨_,ao hM Fp rfl,?_⟩;cbv)|(refine⟨_,ao hM UO rfl,?_⟩;cbv)|(refine⟨fun _=>rfl,(vb y47),g,nx,fun ρ=>by cbv;refine us hc ((Hk (s:=ρ) (r:=r) hI hM afZ).wk ?_);exact⟨aA _,(am6 hI hM U6),aA _,aA _,trivial⟩,?_⟩;cbv)|apply And.intro);all_goals exact bn
        cbv;refine si h (fun h=>?_) fun h=>?_
        ·cbv;refine⟨_,gG hI hM amu,?_⟩;cbv;refine⟨_,Es (enc:=bV) hI hM R5,?_⟩;cbv;refine⟨_,gG hI hM amt,?_⟩;cbv;refine ag h fun YQ Vw h=>⟨_,QN (enc:=bV) hI hM Vw (fun _=>rfl) rfl (by decide),?_⟩;cbv;exact bY (rG _ _ h)
        cbv;exact bY (rG _ _ h)
       cbv;exact bY (oX _ _ h)
     cbv;exact bY (ni _ _ h)
   cbv;exact bY (jO _ _ h)
 cbv;refine lp h (fun(H5,Y9)=>[(11,(.gs r (.l 147) (M.map aq H5))),(12,(vi Y9))]) (fun _=>[]) fun Rm7 m7 wW st h=>?_;obtain⟨H5,Y9⟩:=st;dsimp only[cH]at h;cbv;refine si h (fun h=>?_) fun h=>by cbv;cases h;exact fin
 cbv;refine lp h (fun z62=>[(13,(vi z62))]) (fun z62=>[]) fun Rm8 m8 Cd z62 h=>?_;dsimp only[eJ]at h;cbv;refine ag h fun k63 asq h=>⟨_,gG hI hM asq,?_⟩;cbv;refine ag h fun Sp JJ h=>⟨_,Es (enc:=bV) hI hM JJ,?_⟩;cbv;refine ag h fun k65 asp h=>⟨_,gG hI hM asp,?_⟩;cbv;refine ag h fun x66 agk h=>⟨_,_,QP (enc:=bV) hM agk,rfl,?_⟩;cbv;refine si h (fun h=>?_) fun h=>?_
 ·cbv;exact bY (Cd _ _ h)
 cbv;refine⟨_,cC (enc:=aq) (x:=z62) hM (ak _) rfl,?_⟩;cbv;refine ag h fun YM Vu h=>⟨_,ax (enc:=aq) hI hM Vu (fun _=>rfl) rfl (fun _=>rfl),?_⟩;cbv;exact bY (wW _ _ h)
end Ab
