/- PassesPuts holds of every core (no condition): a part of the proof: an abstract interpreter of the code that is proved sound, models of the functions, and laws of these models. -/
import Derived.Test.YtcdinjhcnhepeaaGreatDoorP02
import Derived.Test.YtcdinjhcnhepeaaGreatDoorP03
import Derived.Test.YtcdinjhcnhepeaaGreatDoorP04
set_option linter.unusedVariables false
set_option linter.unusedSimpArgs false
namespace Ab
open Go Go.Proofs.Tryz
set_option maxHeartbeats 100000000
set_option maxRecDepth 100000
variable{I:Pr}(hI:I=an){M:Md}(hM:M= .an){n nx r s p q u rl:Nat}{g:Nat→Option Ob}
 include hI hM
theorem B8{a0:ai}{v:ai×Int}(h:yN I M n a0=some v):
  bQ 11 [(.agg (aX M p a0))] (.gd [(.agg (aX M r v.1)),(vi v.2)]) g nx:=by
 refine yc func11 c11 r abY af8 [5] 16 ntmps11 [.cell 2 24,.tmp 3] hI (bh.cons (pX r) (bh.cons (tg r) (bh.cons (XW r) (bh.cons (XX r) (bh.cons (th r) (bh.cons (wx r) (sL PP fQ))))))) 8 fun call hc=>?_
 cbv
 refine ae h fun y1 cR h=>⟨_,_,_,us hc (cP hI hM cR),?_⟩;cbv
 refine si h (fun h=>by cbv;cases h;exact fin) fun h=>?_
 cbv
 refine letE h fun n2 mP h=>⟨_,ak hI hM mP,?_⟩;cbv
 refine iu n (fun jJ aQ=>?_);cbv
 refine si h (fun h=>?_) fun h=>?_
 ·as_aux_lemma=>
   cbv
   refine ae h fun x3 jt h=>⟨_,al hM jt rfl,?_⟩;cbv
   refine⟨_,Ou (by rfl),?_⟩;cbv
   refine ae h fun l4 KN h=>⟨pM hI KN,_,_,xF (enc:=(aq M r)) hI hM KN (by have e0:=aH (enc:=(az M r)) hM;simp only[aq,vi,vs,vb,b8,dS,e0]),?_⟩;cbv
   refine aQ _ (lpD h [50009] (fun(l5,z6)=>[(19,(vi z6)),(20,.any)]) (fun(l5,z6)=>[(50007,.box [(.iq (.s 50031) (M.ln l5))]),(50031,.ow (.sl 3) none (M.map (aq M r) l5))]) fun AO m2 cS st h=>?_)
   obtain⟨l5,z6⟩:=st
   dsimp only[uL]at h
   cbv
   refine si h (fun h=>?_) fun h=>?_
   ·cbv
    refine ae h fun x7 Bb h=>⟨_,al hM Bb rfl,?_⟩;cbv
    refine⟨_,Ou (by rfl),?_⟩;cbv
    refine ae h fun l8 Sd h=>?_
    (refine⟨_,_,DB (enc:=(aq M r)) hI hM Sd ?_,?_⟩;next=>have e0:=aH (enc:=(az M r)) hM;simp only[aq,vi,vs,vb,b8,dS,e0])
    cbv
    exact bN (cS _ _ h)
   cbv
   intro l
   cbv
   refine letE h fun ub xE h=>⟨_,ak hI hM xE,?_⟩;cbv
   refine lp h (fun(iJ,nz)=>[(10,(vi nz))]) (fun(iJ,nz)=>[(5,.box [.any]),(50031,.ow (.sl 3) none (M.map (aq M r) iJ))]) fun M6 m3 jE st h=>?_
   obtain⟨iJ,nz⟩:=st
   dsimp only[uK]at h
   cbv
   refine si h (fun h=>?_) fun h=>?_
   ·as_aux_lemma=>
     cbv
     refine ae h fun uk Hq h=>⟨_,al hM Hq rfl,?_⟩;cbv
     refine letE h fun Xc adf h=>⟨_,ak hI hM adf,?_⟩;cbv
     refine lp h (fun(Mq,EI)=>[(18,(vi EI))]) (fun(Mq,EI)=>[(5,.box [.any]),(50031,.ow (.sl 3) none (M.map (aq M r) Mq))]) fun Qt m4 pW st h=>?_
     obtain⟨Mq,EI⟩:=st
     dsimp only[uJ]at h
     cbv
     refine si h (fun h=>?_) fun h=>?_
     ·as_aux_lemma=>
       cbv
       refine ae h fun wC LI h=>⟨_,al hM LI rfl,?_⟩;cbv
       try(refine⟨⟨rfl,rfl,rfl⟩,?_⟩;cbv)
       refine letE h fun HP adE h=>⟨_,⟨rfl,iz (enc:=ao) hI hM adE rfl⟩,?_⟩;cbv
       refine ae h fun u20 O5 h=>?_
       (first|refine⟨_,⟨aR hI hM O5,qP (enc:=ao) (l:=[nz,EI]) hI hM rfl⟩,?_⟩|refine⟨_,⟨rfl,aR hI hM O5,rfl,rfl,qP (enc:=ao) (l:=[nz,EI]) hI hM rfl⟩,?_⟩)
       cbv
       try(refine⟨rfl,?_⟩;cbv)
       refine ae h fun u21 LJ h=>?_
       (first|refine⟨⟨rfl,aR hI hM LJ,rfl⟩,?_⟩|refine⟨⟨aR hI hM LJ,trivial⟩,?_⟩|refine⟨aR hI hM LJ,?_⟩)
       cbv
       try(refine⟨⟨by decide,by decide⟩,?_⟩;cbv)
       refine⟨_,NN (enc:=(Ef (bO M r) (fun y=>[AV.sl r (M.map ao y)]))) hM,?_⟩;cbv
       apply Exists.intro;refine⟨?_,_,rfl,?_⟩
       ·cbv
        refine⟨?_,?_⟩
        ·refine⟨?_,trivial⟩
         refine⟨?_,trivial⟩
         all_goals exact .inl rfl
        refine⟨?_,trivial⟩
        refine⟨?_,trivial⟩
        all_goals exact .inl rfl
       cbv
       refine letE h fun S2 O9 h=>⟨_,ak hI hM O9,?_⟩;cbv
       refine lp h (fun(xS,KQ,Mp,CD)=>[(56,(vi CD))]) (fun(xS,KQ,Mp,CD)=>[(12856004,.ow (.mp [.int .i64,.str,.int .i64] none) none (M.map (Ef (bO M r) (fun y=>[AV.sl r (M.map ao y)])) Mp)),(12856006,.box [(vs wC.head),(vi wC.kids),(.gs r (.c 12856006 2) (M.map (aW M r) xS)),(vi 0),(.gs r (.c 12856006 4) (M.map ao KQ)),(.v .nilFunc)])]) fun Qs m5 ox st h=>?_
       obtain⟨xS,KQ,Mp,CD⟩:=st
       dsimp only[uI]at h
       cbv
       refine si h (fun h=>?_) fun h=>?_
       ·as_aux_lemma=>
         cbv
         refine ae h fun qU acD h=>⟨_,al hM acD rfl,?_⟩;cbv
         refine akE h fun sV Xt j30 hj h=>?_
         dsimp only at h
         refine aT none [(13,.any),(14,.any)] [(12856004,.ow (.mp [.int .i64,.str,.int .i64] none) none (M.map (Ef (bO M r) (fun y=>[AV.sl r (M.map ao y)])) sV)),(12856006,.box [(vs wC.head),(vi wC.kids),(.gs r (.c 12856006 2) (M.map (aW M r) Xt)),(vi 0),(.gs r (.c 12856006 4) (M.map ao j30)),(.v .nilFunc)])] g nx ?_ ?_
         ·replace h:=hj
          cbv
          refine⟨?_,?_⟩
          ·refine⟨?_,trivial⟩
           refine ae h fun CF xB h=>?_
           refine aT none [(8,(.ptr (.s 12857008) 0)),(9,(.sl r (M.map ao CF)))] [(12857008,.box [(vi qU.kind),(vs qU.name),(vi qU.num)])] g nx ?_ ?_
           ·cbv
            refine⟨?_,?_⟩
            ·refine⟨?_,?_⟩
             ·refine⟨fun _=>rfl,(.sl r (M.map ao CF)),g,nx,fun ρ=>by cbv;exact us hc (aD hI hM xB),?_⟩;cbv
              refine⟨?_,trivial⟩
              refine⟨?_,trivial⟩
              all_goals first|exact Or.inl rfl|exact bB
             refine⟨?_,trivial⟩
             refine⟨?_,trivial⟩
             refine⟨fun _=>rfl,(.sl r (M.map ao CF)),g,nx,fun ρ=>by cbv;exact us hc (aD hI hM xB),?_⟩;cbv
             refine⟨?_,trivial⟩
             all_goals first|exact Or.inl rfl|exact bB
            refine⟨?_,?_⟩
            ·refine⟨fun _=>rfl,(.sl r (M.map ao CF)),g,nx,fun ρ=>by cbv;exact us hc (aD hI hM xB),?_⟩;cbv
             refine⟨?_,?_⟩
             ·refine⟨?_,trivial⟩
              refine⟨?_,trivial⟩
              all_goals first|exact Or.inl rfl|exact bB
             refine⟨?_,trivial⟩
             refine⟨?_,trivial⟩
             refine⟨?_,trivial⟩
             all_goals first|exact Or.inl rfl|exact bB
            refine⟨?_,trivial⟩
            refine⟨?_,?_⟩
            ·refine⟨?_,trivial⟩
             refine⟨fun _=>rfl,(.sl r (M.map ao CF)),g,nx,fun ρ=>by cbv;exact us hc (aD hI hM xB),?_⟩;cbv
             refine⟨?_,trivial⟩
             all_goals first|exact Or.inl rfl|exact bB
            refine⟨?_,trivial⟩
            refine⟨fun _=>rfl,(.sl r (M.map ao CF)),g,nx,fun ρ=>by cbv;exact us hc (aD hI hM xB),?_⟩;cbv
            refine⟨?_,trivial⟩
            refine⟨?_,trivial⟩
            all_goals first|exact Or.inl rfl|exact bB
           cbv
           refine letE h fun Vr Rx h=>⟨_,⟨rfl,rfl,rfl,Tc (f:=(bO M r)) (g:=(fun y=>[AV.sl r (M.map ao y)])) hM (n:=3) (fun _=>rfl) (dw M r) (av:=(fun y=>AV.sl r (M.map ao y))) (fun _=>rfl) Rx rfl (aH hM)⟩,?_⟩;cbv
           refine letE h fun ZN RW h=>⟨_,ak hI hM RW,?_⟩;cbv
           refine lp h (fun Cl=>[(29,(vi Cl))]) (fun Cl=>[]) fun Vi m6 rp Cl h=>?_
           dsimp only[pL]at h
           cbv
           refine si h (fun h=>?_) fun h=>?_
           ·cbv
            refine ae h fun oV Dn h=>⟨_,al hM Dn rfl,?_⟩;cbv
            refine ae h fun GM Dm h=>⟨_,al hM Dm rfl,?_⟩;cbv
            refine letE h fun b37 adH h=>⟨_,Uf (f:=(bO M r)) adH rfl (dw M r) (fun _=>rfl) rfl rfl,?_⟩;cbv
            refine ae h fun y38 Rk h=>⟨_,fun hp=>us hc (dt hI hM (ax Rk hp.1)),?_⟩;cbv
            refine si h (fun h=>?_) fun h=>?_
            ·cbv
             refine⟨?_,trivial⟩
             refine⟨_,bJ (enc:=ao) (x:=oV) hM (ah _) rfl,?_⟩;cbv
             refine⟨?_,trivial⟩
             refine ae h fun Qd L3 h=>⟨_,aw (enc:=ao) hI hM L3 (fun _=>rfl) rfl (fun _=>rfl),?_⟩;cbv
             refine⟨?_,trivial⟩
             cases h
             first|exact Or.inl rfl|exact bB
            cbv
            exact bN (rp _ _ h)
           cbv
           refine letE h fun n43 Ht h=>⟨_,ak hI hM Ht,?_⟩;cbv
           refine ae h fun E8 Ai h=>⟨_,_,dF (enc:=ao) hI hM Ai (by decide) rfl,?_⟩;cbv
           refine letE h fun JV L0 h=>?_
           refine letE h fun U5 LO h=>⟨_,_,gr (enc:=ao) hI hM L0 LO rfl (fun _=>rfl) (fun _=>rfl),?_⟩;cbv
           refine⟨_,ak hI hM Ht,?_⟩;cbv
           refine si h (fun h=>?_) fun h=>?_
           ·as_aux_lemma=>
             cbv
             refine ae h fun Th LZ h=>?_
             apply Exists.intro;refine⟨?_,_,rfl,?_⟩
             ·cbv
              refine⟨?_,trivial⟩
              refine⟨?_,trivial⟩
              refine⟨_,bJ (enc:=(aW M r)) (x:=(⟨qU.kind,qU.name,qU.num,[]⟩:aI)) hM ⟨rfl,rfl,rfl,(aH hM),trivial⟩ rfl,?_⟩;cbv
              refine⟨?_,trivial⟩
              refine⟨_,aw (enc:=(aW M r)) hI hM LZ (fun _=>rfl) rfl (fun _=>rfl),?_⟩;cbv
              refine⟨?_,trivial⟩
              all_goals exact .inl rfl
             cbv
             refine letE h fun KP Dr h=>⟨_,ak hI hM Dr,?_⟩;cbv
             refine⟨_,bJ (enc:=ao) (x:=(I.wrap .i64 (I.sub KP 1))) hM (ah _) rfl,?_⟩;cbv
             refine NT h fun Qc k51 l52 acW h=>?_
             dsimp only at h
             refine⟨_,_,_,_,⟨rfl,rfl,rfl,Oh (f:=(bO M r)) (en:=ao) hI hM (n:=3) (fun _=>rfl) (dw M r) acW rfl⟩,fun z53=>?_⟩;cbv
             refine ae h fun IA LY h=>⟨_,aw (enc:=ao) hI hM LY (fun _=>rfl) rfl (fun _=>rfl),?_⟩;cbv
             refine ae h fun U8 LX h=>⟨_,Oi (f:=(bO M r)) (en:=ao) hI hM (kz:=3) (fun _=>rfl) LX,?_⟩;cbv
             refine⟨?_,trivial⟩
             refine⟨_,bJ (enc:=ao) (x:=(I.wrap .i64 (I.sub KP 1))) hM (ah _) rfl,?_⟩;cbv
             refine⟨?_,trivial⟩
             refine ae h fun Pn EX h=>⟨_,aw (enc:=ao) hI hM EX (fun _=>rfl) rfl (fun _=>rfl),?_⟩;cbv
             refine⟨?_,trivial⟩
             cases h
             first|exact Or.inl rfl|exact bB
           cbv
           refine ae h fun u57 acM h=>?_
           refine ae h fun l58 adx h=>?_
           apply Exists.intro;refine⟨?_,_,rfl,?_⟩
           ·cbv
            refine⟨?_,trivial⟩
            refine⟨?_,trivial⟩
            refine⟨_,bJ (enc:=(aW M r)) (x:=(⟨qU.kind,qU.name,qU.num,JV⟩:aI)) hM ⟨rfl,rfl,rfl,(dg hM acM),trivial⟩ rfl,?_⟩;cbv
            refine⟨?_,trivial⟩
            refine⟨_,aw (enc:=(aW M r)) hI hM adx (fun _=>rfl) rfl (fun _=>rfl),?_⟩;cbv
            refine⟨?_,trivial⟩
            all_goals exact .inl rfl
           cbv
           refine letE h fun ZL ac6 h=>⟨_,ak hI hM ac6,?_⟩;cbv
           refine⟨_,bJ (enc:=ao) (x:=(I.wrap .i64 (I.sub ZL 1))) hM (ah _) rfl,?_⟩;cbv
           refine NT h fun l61 k62 l63 acV h=>?_
           dsimp only at h
           refine⟨_,_,_,_,⟨rfl,rfl,rfl,Oh (f:=(bO M r)) (en:=ao) hI hM (n:=3) (fun _=>rfl) (dw M r) acV rfl⟩,fun z64=>?_⟩;cbv
           refine ae h fun Te Sg h=>⟨_,aw (enc:=ao) hI hM Sg (fun _=>rfl) rfl (fun _=>rfl),?_⟩;cbv
           refine ae h fun NU Hv h=>⟨_,Oi (f:=(bO M r)) (en:=ao) hI hM (kz:=3) (fun _=>rfl) Hv,?_⟩;cbv
           refine⟨?_,trivial⟩
           refine⟨_,bJ (enc:=ao) (x:=(I.wrap .i64 (I.sub ZL 1))) hM (ah _) rfl,?_⟩;cbv
           refine⟨?_,trivial⟩
           refine ae h fun l67 adw h=>⟨_,aw (enc:=ao) hI hM adw (fun _=>rfl) rfl (fun _=>rfl),?_⟩;cbv
           refine⟨?_,trivial⟩
           cases h
           first|exact Or.inl rfl|exact bB
          refine⟨?_,trivial⟩
          refine ae h fun CF xB h=>?_
          refine aT none [(8,(.ptr (.s 12857008) 0)),(9,(.sl r (M.map ao CF)))] [(12857008,.box [(vi qU.kind),(vs qU.name),(vi qU.num)])] g nx ?_ ?_
          ·cbv
           refine⟨?_,?_⟩
           ·refine⟨?_,?_⟩
            ·refine⟨fun _=>rfl,(.sl r (M.map ao CF)),g,nx,fun ρ=>by cbv;exact us hc (aD hI hM xB),?_⟩;cbv
             refine⟨?_,trivial⟩
             refine⟨?_,trivial⟩
             all_goals first|exact Or.inl rfl|exact bB
            refine⟨?_,trivial⟩
            refine⟨?_,trivial⟩
            refine⟨fun _=>rfl,(.sl r (M.map ao CF)),g,nx,fun ρ=>by cbv;exact us hc (aD hI hM xB),?_⟩;cbv
            refine⟨?_,trivial⟩
            all_goals first|exact Or.inl rfl|exact bB
           refine⟨?_,?_⟩
           ·refine⟨fun _=>rfl,(.sl r (M.map ao CF)),g,nx,fun ρ=>by cbv;exact us hc (aD hI hM xB),?_⟩;cbv
            refine⟨?_,?_⟩
            ·refine⟨?_,trivial⟩
             refine⟨?_,trivial⟩
             all_goals first|exact Or.inl rfl|exact bB
            refine⟨?_,trivial⟩
            refine⟨?_,trivial⟩
            refine⟨?_,trivial⟩
            all_goals first|exact Or.inl rfl|exact bB
           refine⟨?_,trivial⟩
           refine⟨?_,?_⟩
           ·refine⟨?_,trivial⟩
            refine⟨fun _=>rfl,(.sl r (M.map ao CF)),g,nx,fun ρ=>by cbv;exact us hc (aD hI hM xB),?_⟩;cbv
            refine⟨?_,trivial⟩
            all_goals first|exact Or.inl rfl|exact bB
           refine⟨?_,trivial⟩
           refine⟨fun _=>rfl,(.sl r (M.map ao CF)),g,nx,fun ρ=>by cbv;exact us hc (aD hI hM xB),?_⟩;cbv
           refine⟨?_,trivial⟩
           refine⟨?_,trivial⟩
           all_goals first|exact Or.inl rfl|exact bB
          cbv
          refine letE h fun Vr Rx h=>⟨_,⟨rfl,rfl,rfl,Tc (f:=(bO M r)) (g:=(fun y=>[AV.sl r (M.map ao y)])) hM (n:=3) (fun _=>rfl) (dw M r) (av:=(fun y=>AV.sl r (M.map ao y))) (fun _=>rfl) Rx rfl (aH hM)⟩,?_⟩;cbv
          refine letE h fun ZN RW h=>⟨_,ak hI hM RW,?_⟩;cbv
          refine lp h (fun Cl=>[(29,(vi Cl))]) (fun Cl=>[]) fun Vi m6 rp Cl h=>?_
          dsimp only[pL]at h
          cbv
          refine si h (fun h=>?_) fun h=>?_
          ·cbv
           refine ae h fun oV Dn h=>⟨_,al hM Dn rfl,?_⟩;cbv
           refine ae h fun GM Dm h=>⟨_,al hM Dm rfl,?_⟩;cbv
           refine letE h fun b37 adH h=>⟨_,Uf (f:=(bO M r)) adH rfl (dw M r) (fun _=>rfl) rfl rfl,?_⟩;cbv
           refine ae h fun y38 Rk h=>⟨_,fun hp=>us hc (dt hI hM (ax Rk hp.1)),?_⟩;cbv
           refine si h (fun h=>?_) fun h=>?_
           ·cbv
            refine⟨?_,trivial⟩
            refine⟨_,bJ (enc:=ao) (x:=oV) hM (ah _) rfl,?_⟩;cbv
            refine⟨?_,trivial⟩
            refine ae h fun Qd L3 h=>⟨_,aw (enc:=ao) hI hM L3 (fun _=>rfl) rfl (fun _=>rfl),?_⟩;cbv
            refine⟨?_,trivial⟩
            cases h
            first|exact Or.inl rfl|exact bB
           cbv
           exact bN (rp _ _ h)
          cbv
          refine letE h fun n43 Ht h=>⟨_,ak hI hM Ht,?_⟩;cbv
          refine ae h fun E8 Ai h=>⟨_,_,dF (enc:=ao) hI hM Ai (by decide) rfl,?_⟩;cbv
          refine letE h fun JV L0 h=>?_
          refine letE h fun U5 LO h=>⟨_,_,gr (enc:=ao) hI hM L0 LO rfl (fun _=>rfl) (fun _=>rfl),?_⟩;cbv
          refine⟨_,ak hI hM Ht,?_⟩;cbv
          refine si h (fun h=>?_) fun h=>?_
          ·as_aux_lemma=>
            cbv
            refine ae h fun Th LZ h=>?_
            apply Exists.intro;refine⟨?_,_,rfl,?_⟩
            ·cbv
             refine⟨?_,trivial⟩
             refine⟨?_,trivial⟩
             refine⟨_,bJ (enc:=(aW M r)) (x:=(⟨qU.kind,qU.name,qU.num,[]⟩:aI)) hM ⟨rfl,rfl,rfl,(aH hM),trivial⟩ rfl,?_⟩;cbv
             refine⟨?_,trivial⟩
             refine⟨_,aw (enc:=(aW M r)) hI hM LZ (fun _=>rfl) rfl (fun _=>rfl),?_⟩;cbv
             refine⟨?_,trivial⟩
             all_goals exact .inl rfl
            cbv
            refine letE h fun KP Dr h=>⟨_,ak hI hM Dr,?_⟩;cbv
            refine⟨_,bJ (enc:=ao) (x:=(I.wrap .i64 (I.sub KP 1))) hM (ah _) rfl,?_⟩;cbv
            refine NT h fun Qc k51 l52 acW h=>?_
            dsimp only at h
            refine⟨_,_,_,_,⟨rfl,rfl,rfl,Oh (f:=(bO M r)) (en:=ao) hI hM (n:=3) (fun _=>rfl) (dw M r) acW rfl⟩,fun z53=>?_⟩;cbv
            refine ae h fun IA LY h=>⟨_,aw (enc:=ao) hI hM LY (fun _=>rfl) rfl (fun _=>rfl),?_⟩;cbv
            refine ae h fun U8 LX h=>⟨_,Oi (f:=(bO M r)) (en:=ao) hI hM (kz:=3) (fun _=>rfl) LX,?_⟩;cbv
            refine⟨?_,trivial⟩
            refine⟨_,bJ (enc:=ao) (x:=(I.wrap .i64 (I.sub KP 1))) hM (ah _) rfl,?_⟩;cbv
            refine⟨?_,trivial⟩
            refine ae h fun Pn EX h=>⟨_,aw (enc:=ao) hI hM EX (fun _=>rfl) rfl (fun _=>rfl),?_⟩;cbv
            refine⟨?_,trivial⟩
            cases h
            first|exact Or.inl rfl|exact bB
          cbv
          refine ae h fun u57 acM h=>?_
          refine ae h fun l58 adx h=>?_
          apply Exists.intro;refine⟨?_,_,rfl,?_⟩
          ·cbv
           refine⟨?_,trivial⟩
           refine⟨?_,trivial⟩
           refine⟨_,bJ (enc:=(aW M r)) (x:=(⟨qU.kind,qU.name,qU.num,JV⟩:aI)) hM ⟨rfl,rfl,rfl,(dg hM acM),trivial⟩ rfl,?_⟩;cbv
           refine⟨?_,trivial⟩
           refine⟨_,aw (enc:=(aW M r)) hI hM adx (fun _=>rfl) rfl (fun _=>rfl),?_⟩;cbv
           refine⟨?_,trivial⟩
           all_goals exact .inl rfl
          cbv
          refine letE h fun ZL ac6 h=>⟨_,ak hI hM ac6,?_⟩;cbv
          refine⟨_,bJ (enc:=ao) (x:=(I.wrap .i64 (I.sub ZL 1))) hM (ah _) rfl,?_⟩;cbv
          refine NT h fun l61 k62 l63 acV h=>?_
          dsimp only at h
          refine⟨_,_,_,_,⟨rfl,rfl,rfl,Oh (f:=(bO M r)) (en:=ao) hI hM (n:=3) (fun _=>rfl) (dw M r) acV rfl⟩,fun z64=>?_⟩;cbv
          refine ae h fun Te Sg h=>⟨_,aw (enc:=ao) hI hM Sg (fun _=>rfl) rfl (fun _=>rfl),?_⟩;cbv
          refine ae h fun NU Hv h=>⟨_,Oi (f:=(bO M r)) (en:=ao) hI hM (kz:=3) (fun _=>rfl) Hv,?_⟩;cbv
          refine⟨?_,trivial⟩
          refine⟨_,bJ (enc:=ao) (x:=(I.wrap .i64 (I.sub ZL 1))) hM (ah _) rfl,?_⟩;cbv
          refine⟨?_,trivial⟩
          refine ae h fun l67 adw h=>⟨_,aw (enc:=ao) hI hM adw (fun _=>rfl) rfl (fun _=>rfl),?_⟩;cbv
          refine⟨?_,trivial⟩
          cases h
          first|exact Or.inl rfl|exact bB
         clear hj
         cbv
         exact bN (ox _ _ h)
       cbv
       refine ae h fun Zq Ru h=>?_
       apply Exists.intro;refine⟨?_,_,rfl,?_⟩
       ·cbv
        refine⟨_,al hM Ru rfl,?_⟩;cbv
        refine⟨?_,trivial⟩
        all_goals exact .inl rfl
       cbv
       refine ae h fun k73 ahZ h=>?_
       (first|refine⟨_,⟨rfl,rfl,aK hI ahZ⟩,?_⟩|refine⟨_,aK hI ahZ,?_⟩)
       cbv
       refine ae h fun Zp Rs h=>⟨_,_,rfl,ba hM Rs,rfl,?_⟩;cbv
       refine ae h fun k75 anp h=>⟨_,bV hI hM anp,?_⟩;cbv
       refine ae h fun Zo LC h=>?_
       refine ae h fun l77 ads h=>?_
       refine ae h fun HL Jn h=>?_
       apply Exists.intro;refine⟨?_,_,rfl,?_⟩
       ·cbv
        refine⟨_,_,_,⟨rfl,ba (enc:=(aq M r)) hM LC,rfl,rfl⟩,?_⟩;cbv
        refine⟨?_,trivial⟩
        refine⟨_,bJ (enc:=(az M r)) (x:=(⟨wC.head,wC.kids,xS,Zq⟩:ag)) hM (ah _) rfl,?_⟩;cbv
        refine⟨?_,trivial⟩
        refine⟨_,aw (enc:=(az M r)) hI hM ads (fun _=>rfl) rfl (fun _=>rfl),?_⟩;cbv
        refine⟨?_,trivial⟩
        (first|refine⟨_,qQ (enc:=(aq M r)) hI hM LC Jn (show 2<3 from by decide) rfl,?_⟩|refine⟨rfl,rfl,rfl,_,qQ (enc:=(aq M r)) hI hM LC Jn (show 2<3 from by decide) rfl,?_⟩)
        cbv
        all_goals exact .inl rfl
       cbv
       try(refine⟨rfl,?_⟩;cbv)
       refine lK hI ?_;cbv
       exact bN (pW _ _ h)
     cbv
     exact bN (jE _ _ h)
   cbv
   try(refine⟨rfl,?_⟩;cbv)
   refine ae h fun u83 amS h=>?_
   obtain rfl:=Option.some.inj h
   cbv
   all_goals(repeat' apply And.intro)
   all_goals first|trivial|rfl|exact(aH hM)|exact(dg hM amS)
 cbv
 cases h
end Ab
