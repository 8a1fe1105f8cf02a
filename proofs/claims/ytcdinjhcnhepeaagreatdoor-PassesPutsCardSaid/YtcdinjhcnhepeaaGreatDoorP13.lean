/- PassesPuts holds of every core (no condition): a part of the proof: an abstract interpreter of the code that is proved sound, models of the functions, and laws of these models. -/
import Derived.Test.YtcdinjhcnhepeaaGreatDoorP02
import Derived.Test.YtcdinjhcnhepeaaGreatDoorP03
import Derived.Test.YtcdinjhcnhepeaaGreatDoorP04
set_option linter.unusedVariables false
set_option linter.unusedSimpArgs false
namespace Ab
open Go Go.Proofs.Tryz
set_option maxHeartbeats 100000000
set_option maxRecDepth 100000
variable{I:Pr}(hI:I=an){M:Md}(hM:M= .an){n nx r s p q u rl:Nat}{g:Nat→Option Ob}
 include hI hM
theorem zt{a0:ai}{a1:ag}{a2:Bool}{v:ag}(h:rQ I M n a0 a1 a2=some v):
  bQ 104 [(.agg (aX M r a0)),(.agg (az M r a1)),(vb a2)] (.agg (az M r v)) g nx:=by
 refine cC func104 aqT r Ws YY [] 205 ntmps104 [.cell 6 61] hI fun call hc=>?_
 cbv
 refine letE h fun n1 cY h=>⟨_,ak hI hM cY,?_⟩;cbv
 refine ae h fun l2 Jo h=>⟨_,_,dF (enc:=ao) hI hM Jo (by decide) rfl,?_⟩;cbv
 refine lp h (fun(l3,l4,z5)=>[(9,(vi z5))]) (fun(l3,l4,z5)=>[(7,.box [(vs a1.head),(vi a1.kids),(.gs r (.c 7 2) (M.map (aW M r) l4)),(vi 0)]),(26,.arr 1 (M.map ao l3))]) fun jJ m1 aQ st h=>?_
 obtain⟨l3,l4,z5⟩:=st
 dsimp only[nH]at h
 cbv
 refine letE h fun n6 Jk h=>⟨_,ak hI hM Jk,?_⟩;cbv
 refine si h (fun h=>?_) fun h=>?_
 ·as_aux_lemma=>
   cbv
   refine ae h fun x7 Bb h=>⟨_,al hM Bb rfl,?_⟩;cbv
   refine ae h fun u8 ZA h=>?_
   refine ae h fun y9 Hi h=>⟨fun _=>rfl,(.agg (aW M r y9)),g,nx,fun ρ=>by cbv;refine us hc ((kL (s:=ρ) hI hM Hi).wk ?_);exact⟨aA _,(dg hM ZA),trivial⟩,?_⟩;cbv
   refine ae h fun qT nc h=>⟨_,_,_,us hc (p4 hI hM nc),?_⟩;cbv
   refine si h (fun h=>?_) fun h=>?_
   ·as_aux_lemma=>
     cbv
     refine ae h fun rJ rU h=>?_
     refine ae h fun tK mG h=>?_
     apply Exists.intro;refine⟨?_,_,rfl,?_⟩
     ·cbv
      refine⟨?_,?_⟩
      ·refine⟨_,_,_,us hc (nD hI hM rU),?_⟩;cbv
       refine⟨_,al hM mG rfl,?_⟩;cbv
       refine⟨?_,trivial⟩
       refine⟨?_,trivial⟩
       all_goals exact .inl rfl
      try refine⟨?_,trivial⟩
      try refine⟨?_,trivial⟩
      refine⟨_,_,_,us hc (nD hI hM rU),?_⟩;cbv
      refine⟨_,al hM mG rfl,?_⟩;cbv
      try refine⟨?_,trivial⟩
      all_goals exact .inl rfl
     cbv
     refine ae h fun ov pH h=>⟨_,_,_,us hc (Fe hI hM pH),?_⟩;cbv
     refine si h (fun h=>?_) fun h=>?_
     ·as_aux_lemma=>
       cbv
       refine ae h fun uk Hq h=>⟨_,al hM Hq rfl,?_⟩;cbv
       refine lp h (fun(uh,jV)=>[(14,(vi uh)),(15,(vi jV))]) (fun _=>[]) fun AO m2 cS st h=>?_
       obtain⟨uh,jV⟩:=st
       dsimp only[lf]at h
       cbv
       refine letE h fun S3 LR h=>⟨_,ak hI hM LR,?_⟩;cbv
       refine si h (fun h=>?_) fun h=>?_
       ·cbv
        refine ae h fun wC LI h=>⟨_,al hM LI rfl,?_⟩;cbv
        refine ae h fun Fv wF h=>⟨_,fun hp=>al hM (ax wF hp.1) rfl,?_⟩;cbv
        refine si h (fun h=>?_) fun h=>?_
        ·cbv
         exact bN (cS _ _ h)
        cbv
        exact bN (cS _ _ h)
       cbv
       refine letE h fun S2 O9 h=>⟨_,ak hI hM O9,?_⟩;cbv
       refine letE h fun Xb O8 h=>⟨_,ak hI hM O8,?_⟩;cbv
       refine si h (fun h=>?_) fun h=>?_
       ·cbv
        refine⟨_,ak hI hM O9,?_⟩;cbv
        refine ae h fun Xs Ma h=>⟨_,bV hI hM Ma,?_⟩;cbv
        refine ae h fun zP LH h=>?_
        refine ae h fun JW ang h=>⟨_,cN hI hM LH ang (by decide) rfl rfl,?_⟩;cbv
        refine⟨_,bJ (enc:=(aW M r)) (x:=y9) hM (ah _) rfl,?_⟩;cbv
        refine ae h fun oQ adD h=>⟨_,aw (enc:=(aW M r)) hI hM adD (fun _=>rfl) rfl (fun _=>rfl),?_⟩;cbv
        exact bN (aQ _ _ h)
       cbv
       refine letE h fun n28 am5 h=>⟨_,ak hI hM am5,?_⟩;cbv
       refine ae h fun Ti ane h=>⟨_,_,dF (enc:=ao) hI hM ane (by decide) rfl,?_⟩;cbv
       refine lp h (fun(EJ,E9,CC)=>[(17,(vi CC))]) (fun(EJ,E9,CC)=>[(7,.box [(vs a1.head),(vi a1.kids),(.gs r (.c 7 2) (M.map (aW M r) E9)),(vi 0)]),(121,.arr 1 (M.map ao EJ))]) fun M6 m3 jE st h=>?_
       obtain⟨EJ,E9,CC⟩:=st
       dsimp only[ld]at h
       cbv
       refine letE h fun ZN RW h=>⟨_,ak hI hM RW,?_⟩;cbv
       refine si h (fun h=>?_) fun h=>?_
       ·as_aux_lemma=>
         cbv
         refine ae h fun Zs Ji h=>⟨_,al hM Ji rfl,?_⟩;cbv
         refine si h (fun h=>?_) fun h=>?_
         ·cbv
          refine ae h fun oV Dn h=>?_
          refine ae h fun k36 anv h=>?_
          refine ae h fun x37 amL h=>?_
          refine ae h fun l38 Sj h=>?_
          apply Exists.intro;refine⟨?_,_,rfl,?_⟩
          ·cbv
           refine⟨_,al hM Ji rfl,?_⟩;cbv
           refine⟨_,al hM Dn rfl,?_⟩;cbv
           refine⟨_,bV hI hM anv,?_⟩;cbv
           refine⟨?_,trivial⟩
           refine⟨_,cN hI hM amL Sj (by decide) rfl rfl,?_⟩;cbv
           all_goals exact .inl rfl
          cbv
          exact bN (jE _ _ h)
         cbv
         refine si h (fun h=>?_) fun h=>?_
         ·cbv
          refine ae h fun x39 amK h=>?_
          refine ae h fun x40 amJ h=>?_
          refine ae h fun Lb Hp h=>?_
          refine ae h fun k42 anu h=>?_
          refine ae h fun x43 Rw h=>?_
          refine ae h fun E8 Ai h=>?_
          apply Exists.intro;refine⟨?_,_,rfl,?_⟩
          ·cbv
           refine⟨_,al hM amK rfl,?_⟩;cbv
           refine⟨_,al hM amJ rfl,?_⟩;cbv
           refine⟨_,al hM Ji rfl,?_⟩;cbv
           refine⟨_,al hM Hp rfl,?_⟩;cbv
           refine⟨_,bV hI hM anu,?_⟩;cbv
           refine⟨?_,trivial⟩
           refine⟨_,cN hI hM Rw Ai (by decide) rfl rfl,?_⟩;cbv
           all_goals exact .inl rfl
          cbv
          exact bN (jE _ _ h)
         cbv
         refine letE h fun JH Ah h=>⟨_,ak hI hM Ah,?_⟩;cbv
         refine ae h fun k46 L9 h=>⟨_,bV hI hM L9,?_⟩;cbv
         refine ae h fun La Hn h=>?_
         refine ae h fun Mo Si h=>⟨_,cN hI hM Hn Si (by decide) rfl rfl,?_⟩;cbv
         refine ae h fun u49 amX h=>?_
         refine ae h fun Vl acd h=>?_
         refine ae h fun U9 Sh h=>?_
         apply Exists.intro;refine⟨?_,_,rfl,?_⟩
         ·cbv
          refine⟨_,al hM Ji rfl,?_⟩;cbv
          refine⟨?_,trivial⟩
          refine⟨fun _=>rfl,(.agg (aW M r Vl)),g,nx,fun ρ=>by cbv;refine us hc ((kL (s:=ρ) hI hM acd).wk ?_);exact⟨aA _,(dg hM amX),trivial⟩,?_⟩;cbv
          refine⟨?_,trivial⟩
          refine⟨_,bJ (enc:=(aW M r)) (x:=Vl) hM (ah _) rfl,?_⟩;cbv
          refine⟨?_,trivial⟩
          refine⟨_,aw (enc:=(aW M r)) hI hM Sh (fun _=>rfl) rfl (fun _=>rfl),?_⟩;cbv
          refine⟨?_,trivial⟩
          all_goals exact .inl rfl
         cbv
         exact bN (jE _ _ h)
       cbv
       refine ae h fun k55 W0 h=>⟨_,bV hI hM W0,?_⟩;cbv
       refine ae h fun x56 acy h=>⟨_,_,rfl,ba hM acy,rfl,?_⟩;cbv
       refine ae h fun Tp Hz h=>⟨_,bV hI hM Hz,?_⟩;cbv
       refine ae h fun UZ Hm h=>?_
       refine ae h fun JU Dv h=>⟨_,cN hI hM Hm Dv (by decide) rfl rfl,?_⟩;cbv
       exact bN (aQ _ _ h)
     cbv
     refine lp h (fun _=>[]) (fun _=>[]) fun Qt m4 pW st h=>?_
     dsimp only[uB]at h
     cbv
     refine⟨_,rfl,?_⟩;cbv
     refine eS (iB hI (by decide)) ?_;cbv
     refine letE h fun n60 O7 h=>⟨_,ak hI hM O7,?_⟩;cbv
     refine letE h fun W7 Hs h=>⟨_,ak hI hM Hs,?_⟩;cbv
     refine si h (fun h=>?_) fun h=>?_
     ·cbv
      refine⟨_,ak hI hM O7,?_⟩;cbv
      refine ae h fun k62 ans h=>⟨_,bV hI hM ans,?_⟩;cbv
      refine ae h fun x63 amG h=>?_
      refine ae h fun Pm Hw h=>⟨_,cN hI hM amG Hw (by decide) rfl rfl,?_⟩;cbv
      refine⟨_,bJ (enc:=(aW M r)) (x:=y9) hM (ah _) rfl,?_⟩;cbv
      refine ae h fun Te Sg h=>⟨_,aw (enc:=(aW M r)) hI hM Sg (fun _=>rfl) rfl (fun _=>rfl),?_⟩;cbv
      exact bN (aQ _ _ h)
     cbv
     refine⟨_,rfl,?_⟩;cbv
     refine ae h fun NU Hv h=>⟨_,_,dF (enc:=ao) hI hM Hv (by decide) rfl,?_⟩;cbv
     refine lp h (fun _=>[]) (fun _=>[]) fun Qs m5 ox st h=>?_
     dsimp only[Ba]at h
     cbv
     refine⟨_,rfl,?_⟩;cbv
     refine eS (iB hI (by decide)) ?_;cbv
     refine ae h fun k67 WZ h=>⟨_,bV hI hM WZ,?_⟩;cbv
     refine ae h fun Vq Rv h=>⟨_,_,rfl,ba hM Rv,rfl,?_⟩;cbv
     refine ae h fun Va Pc h=>⟨_,bV hI hM Pc,?_⟩;cbv
     refine ae h fun Vp LD h=>?_
     refine ae h fun HM adu h=>⟨_,cN hI hM LD adu (by decide) rfl rfl,?_⟩;cbv
     exact bN (aQ _ _ h)
   cbv
   refine lp h (fun _=>[]) (fun _=>[]) fun Vi m6 rp st h=>?_
   dsimp only[uA]at h
   cbv
   refine⟨_,rfl,?_⟩;cbv
   refine eS (iB hI (by decide)) ?_;cbv
   refine letE h fun ZK Jj h=>⟨_,ak hI hM Jj,?_⟩;cbv
   refine letE h fun n73 am3 h=>⟨_,ak hI hM am3,?_⟩;cbv
   refine si h (fun h=>?_) fun h=>?_
   ·cbv
    refine⟨_,ak hI hM Jj,?_⟩;cbv
    refine ae h fun k74 anq h=>⟨_,bV hI hM anq,?_⟩;cbv
    refine ae h fun x75 amE h=>?_
    refine ae h fun Xi Se h=>⟨_,cN hI hM amE Se (by decide) rfl rfl,?_⟩;cbv
    refine⟨_,bJ (enc:=(aW M r)) (x:=y9) hM (ah _) rfl,?_⟩;cbv
    refine ae h fun l77 ads h=>⟨_,aw (enc:=(aW M r)) hI hM ads (fun _=>rfl) rfl (fun _=>rfl),?_⟩;cbv
    exact bN (aQ _ _ h)
   cbv
   refine⟨_,rfl,?_⟩;cbv
   refine ae h fun HL Jn h=>⟨_,_,dF (enc:=ao) hI hM Jn (by decide) rfl,?_⟩;cbv
   refine lp h (fun _=>[]) (fun _=>[]) fun Rm7 m7 vo st h=>?_
   dsimp only[A9]at h
   cbv
   refine⟨_,rfl,?_⟩;cbv
   refine eS (iB hI (by decide)) ?_;cbv
   refine ae h fun k79 ano h=>⟨_,bV hI hM ano,?_⟩;cbv
   refine ae h fun x80 amD h=>⟨_,_,rfl,ba hM amD,rfl,?_⟩;cbv
   refine ae h fun k81 anm h=>⟨_,bV hI hM anm,?_⟩;cbv
   refine ae h fun x82 amB h=>?_
   refine ae h fun l83 anc h=>⟨_,cN hI hM amB anc (by decide) rfl rfl,?_⟩;cbv
   exact bN (aQ _ _ h)
 cbv
 refine ae h fun k87 anl h=>⟨_,bV hI hM anl,?_⟩;cbv
 refine ae h fun UX Rq h=>⟨_,_,rfl,ba hM Rq,rfl,?_⟩;cbv
 cbv;cases h;exact fin
end Ab
