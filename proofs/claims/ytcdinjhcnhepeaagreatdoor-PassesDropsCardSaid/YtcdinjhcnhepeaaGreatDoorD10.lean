/- PassesDrops holds of every core (no condition): a part of the proof: an abstract interpreter of the code that is proved sound, models of the functions, and laws of these models. -/
import Derived.Test.YtcdinjhcnhepeaaGreatDoorD02
import Derived.Test.YtcdinjhcnhepeaaGreatDoorD03
import Derived.Test.YtcdinjhcnhepeaaGreatDoorD04
set_option linter.unusedVariables false
set_option linter.unusedSimpArgs false
namespace Ab
open Go Go.Proofs.Tryz
set_option maxHeartbeats 100000000
set_option maxRecDepth 100000
variable{I:Pr}(hI:I=al){M:Md}(hM:M= .al){n nx r s p q u rl:Nat}{g:Nat→Option Ob}
 include hI hM
theorem hD{a0:ah}{v:ah×Int}(h:fe I M n a0=some v):
  bO 11 [(.agg (ba M p a0))] (.fT [(.agg (ba M r v.1)),(vi v.2)]) g nx:=by
 refine yp func11 c11 r aco agt [5] 16 ntmps11 [.cell 2 24,.tmp 3] hI (bk.cons (qE r) (bk.cons (uj r) (bk.cons (Yj r) (bk.cons (Yk r) (bk.cons (uk r) (bk.cons (wY r) (tF PP fD))))))) 8 fun call hc=>?_
 cbv
 refine ab h fun y1 cN h=>⟨_,_,_,us hc (cT hI hM cN),?_⟩;cbv
 refine si h (fun h=>by cbv;cases h;exact fin) fun h=>?_
 cbv
 refine letE h fun n2 oQ h=>⟨_,ak hI hM oQ,?_⟩;cbv
 refine ic n (fun ju aS=>?_);cbv
 refine si h (fun h=>?_) fun h=>?_
 ·as_aux_lemma=>
   cbv
   refine ab h fun x3 iJ h=>⟨_,ai hM iJ rfl,?_⟩;cbv
   refine⟨_,Pa (by rfl),?_⟩;cbv
   refine ab h fun l4 Lq h=>⟨qm hI Lq,_,_,xV (enc:=(ao M r)) hI hM Lq (by have e0:=aE (enc:=(az M r)) hM;simp only[ao,vi,vs,vb,bY,dL,e0]),?_⟩;cbv
   refine aS _ (lpD h [50009] (fun(l5,z6)=>[(19,(vi z6)),(20,.any)]) (fun(l5,z6)=>[(50007,.box [(.ia (.s 50031) (M.ln l5))]),(50031,.ow (.sl 3) none (M.map (ao M r) l5))]) fun Bc m2 cI st h=>?_)
   obtain⟨l5,z6⟩:=st
   dsimp only[fO]at h
   cbv
   refine si h (fun h=>?_) fun h=>?_
   ·cbv
    refine ab h fun x7 BA h=>⟨_,ai hM BA rfl,?_⟩;cbv
    refine⟨_,Pa (by rfl),?_⟩;cbv
    refine ab h fun l8 SO h=>?_
    (refine⟨_,_,DR (enc:=(ao M r)) hI hM SO ?_,?_⟩;next=>have e0:=aE (enc:=(az M r)) hM;simp only[ao,vi,vs,vb,bY,dL,e0])
    cbv
    exact bN (cI _ _ h)
   cbv
   intro l
   cbv
   refine letE h fun uU xU h=>⟨_,ak hI hM xU,?_⟩;cbv
   refine lp h (fun(iq,nu)=>[(10,(vi nu))]) (fun(iq,nu)=>[(5,.box [.any]),(50031,.ow (.sl 3) none (M.map (ao M r) iq))]) fun NJ m3 iI st h=>?_
   obtain⟨iq,nu⟩:=st
   dsimp only[fN]at h
   cbv
   refine si h (fun h=>?_) fun h=>?_
   ·as_aux_lemma=>
     cbv
     refine ab h fun vf HR h=>⟨_,ai hM HR rfl,?_⟩;cbv
     refine letE h fun XB adH h=>⟨_,ak hI hM adH,?_⟩;cbv
     refine lp h (fun(Na,EY)=>[(18,(vi EY))]) (fun(Na,EY)=>[(5,.box [.any]),(50031,.ow (.sl 3) none (M.map (ao M r) Na))]) fun Q5 m4 qC st h=>?_
     obtain⟨Na,EY⟩:=st
     dsimp only[fM]at h
     cbv
     refine si h (fun h=>?_) fun h=>?_
     ·as_aux_lemma=>
       cbv
       refine ab h fun xb Mr h=>⟨_,ai hM Mr rfl,?_⟩;cbv
       try(refine⟨⟨rfl,rfl,rfl⟩,?_⟩;cbv)
       refine letE h fun Il ad6 h=>⟨_,⟨rfl,iw (enc:=an) hI hM ad6 rfl⟩,?_⟩;cbv
       refine ab h fun u20 PQ h=>?_
       (first|refine⟨_,⟨aT hI hM PQ,rN (enc:=an) (l:=[nu,EY]) hI hM rfl⟩,?_⟩|refine⟨_,⟨rfl,aT hI hM PQ,rfl,rfl,rN (enc:=an) (l:=[nu,EY]) hI hM rfl⟩,?_⟩)
       cbv
       try(refine⟨rfl,?_⟩;cbv)
       refine ab h fun u21 Ms h=>?_
       (first|refine⟨⟨rfl,aT hI hM Ms,rfl⟩,?_⟩|refine⟨⟨aT hI hM Ms,trivial⟩,?_⟩|refine⟨aT hI hM Ms,?_⟩)
       cbv
       try(refine⟨⟨by decide,by decide⟩,?_⟩;cbv)
       refine⟨_,Oo (enc:=(Ey (bM M r) (fun y=>[AV.sl r (M.map an y)]))) hM,?_⟩;cbv
       apply Exists.intro;refine⟨?_,_,rfl,?_⟩
       ·cbv
        refine⟨?_,?_⟩
        ·refine⟨?_,trivial⟩
         refine⟨?_,trivial⟩
         all_goals exact .inl rfl
        refine⟨?_,trivial⟩
        refine⟨?_,trivial⟩
        all_goals exact .inl rfl
       cbv
       refine letE h fun TB PU h=>⟨_,ak hI hM PU,?_⟩;cbv
       refine lp h (fun(wU,Lu,Kt,C8)=>[(56,(vi C8))]) (fun(wU,Lu,Kt,C8)=>[(12856004,.ow (.mp [.int .i64,.str,.int .i64] none) none (M.map (Ey (bM M r) (fun y=>[AV.sl r (M.map an y)])) Kt)),(12856006,.box [(vs xb.head),(vi xb.kids),(.gs r (.c 12856006 2) (M.map (aZ M r) wU)),(vi 0),(.gs r (.c 12856006 4) (M.map an Lu)),(.v .nilFunc)])]) fun Q4 m5 qB st h=>?_
       obtain⟨wU,Lu,Kt,C8⟩:=st
       dsimp only[fL]at h
       cbv
       refine si h (fun h=>?_) fun h=>?_
       ·as_aux_lemma=>
         cbv
         refine ab h fun rQ ac5 h=>⟨_,ai hM ac5 rfl,?_⟩;cbv
         refine akX h fun tY XT j30 hj h=>?_
         dsimp only at h
         refine aX none [(13,.any),(14,.any)] [(12856004,.ow (.mp [.int .i64,.str,.int .i64] none) none (M.map (Ey (bM M r) (fun y=>[AV.sl r (M.map an y)])) tY)),(12856006,.box [(vs xb.head),(vi xb.kids),(.gs r (.c 12856006 2) (M.map (aZ M r) XT)),(vi 0),(.gs r (.c 12856006 4) (M.map an j30)),(.v .nilFunc)])] g nx ?_ ?_
         ·replace h:=hj
          cbv
          refine⟨?_,?_⟩
          ·refine⟨?_,trivial⟩
           refine ab h fun Bg vv h=>?_
           refine aX none [(8,(.ptr (.s 12857008) 0)),(9,(.sl r (M.map an Bg)))] [(12857008,.box [(vi rQ.kind),(vs rQ.name),(vi rQ.num)])] g nx ?_ ?_
           ·cbv
            refine⟨?_,?_⟩
            ·refine⟨?_,?_⟩
             ·refine⟨fun _=>rfl,(.sl r (M.map an Bg)),g,nx,fun ρ=>by cbv;exact us hc (aC hI hM vv),?_⟩;cbv
              refine⟨?_,trivial⟩
              refine⟨?_,trivial⟩
              all_goals first|exact Or.inl rfl|exact bB
             refine⟨?_,trivial⟩
             refine⟨?_,trivial⟩
             refine⟨fun _=>rfl,(.sl r (M.map an Bg)),g,nx,fun ρ=>by cbv;exact us hc (aC hI hM vv),?_⟩;cbv
             refine⟨?_,trivial⟩
             all_goals first|exact Or.inl rfl|exact bB
            refine⟨?_,?_⟩
            ·refine⟨fun _=>rfl,(.sl r (M.map an Bg)),g,nx,fun ρ=>by cbv;exact us hc (aC hI hM vv),?_⟩;cbv
             refine⟨?_,?_⟩
             ·refine⟨?_,trivial⟩
              refine⟨?_,trivial⟩
              all_goals first|exact Or.inl rfl|exact bB
             refine⟨?_,trivial⟩
             refine⟨?_,trivial⟩
             refine⟨?_,trivial⟩
             all_goals first|exact Or.inl rfl|exact bB
            refine⟨?_,trivial⟩
            refine⟨?_,?_⟩
            ·refine⟨?_,trivial⟩
             refine⟨fun _=>rfl,(.sl r (M.map an Bg)),g,nx,fun ρ=>by cbv;exact us hc (aC hI hM vv),?_⟩;cbv
             refine⟨?_,trivial⟩
             all_goals first|exact Or.inl rfl|exact bB
            refine⟨?_,trivial⟩
            refine⟨fun _=>rfl,(.sl r (M.map an Bg)),g,nx,fun ρ=>by cbv;exact us hc (aC hI hM vv),?_⟩;cbv
            refine⟨?_,trivial⟩
            refine⟨?_,trivial⟩
            all_goals first|exact Or.inl rfl|exact bB
           cbv
           refine letE h fun VU R8 h=>⟨_,⟨rfl,rfl,rfl,TO (f:=(bM M r)) (g:=(fun y=>[AV.sl r (M.map an y)])) hM (n:=3) (fun _=>rfl) (db M r) (av:=(fun y=>AV.sl r (M.map an y))) (fun _=>rfl) R8 rfl (aE hM)⟩,?_⟩;cbv
           refine letE h fun n33 Sz h=>⟨_,ak hI hM Sz,?_⟩;cbv
           refine lp h (fun CI=>[(29,(vi CI))]) (fun CI=>[]) fun VL m6 qA CI h=>?_
           dsimp only[eD]at h
           cbv
           refine si h (fun h=>?_) fun h=>?_
           ·cbv
            refine ab h fun oP Av h=>⟨_,ai hM Av rfl,?_⟩;cbv
            refine ab h fun Hc DF h=>⟨_,ai hM DF rfl,?_⟩;cbv
            refine letE h fun b37 ad9 h=>⟨_,UK (f:=(bM M r)) ad9 rfl (db M r) (fun _=>rfl) rfl rfl,?_⟩;cbv
            refine ab h fun Vn Mj h=>⟨_,fun hp=>us hc (c6 hI hM (aw Mj hp.1)),?_⟩;cbv
            refine si h (fun h=>?_) fun h=>?_
            ·cbv
             refine⟨?_,trivial⟩
             refine⟨_,bJ (enc:=an) (x:=oP) hM (af _) rfl,?_⟩;cbv
             refine⟨?_,trivial⟩
             refine ab h fun QS MJ h=>⟨_,au (enc:=an) hI hM MJ (fun _=>rfl) rfl (fun _=>rfl),?_⟩;cbv
             refine⟨?_,trivial⟩
             cases h
             first|exact Or.inl rfl|exact bB
            cbv
            exact bN (qA _ _ h)
           cbv
           refine letE h fun n43 HU h=>⟨_,ak hI hM HU,?_⟩;cbv
           refine ab h fun Fu Az h=>⟨_,_,dw (enc:=an) hI hM Az (by decide) rfl,?_⟩;cbv
           refine letE h fun OB MG h=>?_
           refine letE h fun n46 Mx h=>⟨_,_,fZ (enc:=an) hI hM MG Mx rfl (fun _=>rfl) (fun _=>rfl),?_⟩;cbv
           refine⟨_,ak hI hM HU,?_⟩;cbv
           refine si h (fun h=>?_) fun h=>?_
           ·as_aux_lemma=>
             cbv
             refine ab h fun P6 MF h=>?_
             apply Exists.intro;refine⟨?_,_,rfl,?_⟩
             ·cbv
              refine⟨?_,trivial⟩
              refine⟨?_,trivial⟩
              refine⟨_,bJ (enc:=(aZ M r)) (x:=(⟨rQ.kind,rQ.name,rQ.num,[]⟩:aL)) hM ⟨rfl,rfl,rfl,(aE hM),trivial⟩ rfl,?_⟩;cbv
              refine⟨?_,trivial⟩
              refine⟨_,au (enc:=(aZ M r)) hI hM MF (fun _=>rfl) rfl (fun _=>rfl),?_⟩;cbv
              refine⟨?_,trivial⟩
              all_goals exact .inl rfl
             cbv
             refine letE h fun Lr DI h=>⟨_,ak hI hM DI,?_⟩;cbv
             refine⟨_,bJ (enc:=an) (x:=(I.wrap .i64 (I.sub Lr 1))) hM (af _) rfl,?_⟩;cbv
             refine Oy h fun QQ k51 XJ adp h=>?_
             dsimp only at h
             refine⟨_,_,_,_,⟨rfl,rfl,rfl,O1 (f:=(bM M r)) (en:=an) hI hM (n:=3) (fun _=>rfl) (db M r) adp rfl⟩,fun z53=>?_⟩;cbv
             refine ab h fun OA ME h=>⟨_,au (enc:=an) hI hM ME (fun _=>rfl) rfl (fun _=>rfl),?_⟩;cbv
             refine ab h fun QP MD h=>⟨_,O2 (f:=(bM M r)) (en:=an) hI hM (kz:=3) (fun _=>rfl) MD,?_⟩;cbv
             refine⟨?_,trivial⟩
             refine⟨_,bJ (enc:=an) (x:=(I.wrap .i64 (I.sub Lr 1))) hM (af _) rfl,?_⟩;cbv
             refine⟨?_,trivial⟩
             refine ab h fun M9 Fp h=>⟨_,au (enc:=an) hI hM Fp (fun _=>rfl) rfl (fun _=>rfl),?_⟩;cbv
             refine⟨?_,trivial⟩
             cases h
             first|exact Or.inl rfl|exact bB
           cbv
           refine ab h fun u57 adf h=>?_
           refine ab h fun l58 adZ h=>?_
           apply Exists.intro;refine⟨?_,_,rfl,?_⟩
           ·cbv
            refine⟨?_,trivial⟩
            refine⟨?_,trivial⟩
            refine⟨_,bJ (enc:=(aZ M r)) (x:=(⟨rQ.kind,rQ.name,rQ.num,OB⟩:aL)) hM ⟨rfl,rfl,rfl,(cX hM adf),trivial⟩ rfl,?_⟩;cbv
            refine⟨?_,trivial⟩
            refine⟨_,au (enc:=(aZ M r)) hI hM adZ (fun _=>rfl) rfl (fun _=>rfl),?_⟩;cbv
            refine⟨?_,trivial⟩
            all_goals exact .inl rfl
           cbv
           refine letE h fun n59 adz h=>⟨_,ak hI hM adz,?_⟩;cbv
           refine⟨_,bJ (enc:=an) (x:=(I.wrap .i64 (I.sub n59 1))) hM (af _) rfl,?_⟩;cbv
           refine Oy h fun l61 XR l63 ado h=>?_
           dsimp only at h
           refine⟨_,_,_,_,⟨rfl,rfl,rfl,O1 (f:=(bM M r)) (en:=an) hI hM (n:=3) (fun _=>rfl) (db M r) ado rfl⟩,fun z64=>?_⟩;cbv
           refine ab h fun P4 SR h=>⟨_,au (enc:=an) hI hM SR (fun _=>rfl) rfl (fun _=>rfl),?_⟩;cbv
           refine ab h fun Ls HW h=>⟨_,O2 (f:=(bM M r)) (en:=an) hI hM (kz:=3) (fun _=>rfl) HW,?_⟩;cbv
           refine⟨?_,trivial⟩
           refine⟨_,bJ (enc:=an) (x:=(I.wrap .i64 (I.sub n59 1))) hM (af _) rfl,?_⟩;cbv
           refine⟨?_,trivial⟩
           refine ab h fun l67 adY h=>⟨_,au (enc:=an) hI hM adY (fun _=>rfl) rfl (fun _=>rfl),?_⟩;cbv
           refine⟨?_,trivial⟩
           cases h
           first|exact Or.inl rfl|exact bB
          refine⟨?_,trivial⟩
          refine ab h fun Bg vv h=>?_
          refine aX none [(8,(.ptr (.s 12857008) 0)),(9,(.sl r (M.map an Bg)))] [(12857008,.box [(vi rQ.kind),(vs rQ.name),(vi rQ.num)])] g nx ?_ ?_
          ·cbv
           refine⟨?_,?_⟩
           ·refine⟨?_,?_⟩
            ·refine⟨fun _=>rfl,(.sl r (M.map an Bg)),g,nx,fun ρ=>by cbv;exact us hc (aC hI hM vv),?_⟩;cbv
             refine⟨?_,trivial⟩
             refine⟨?_,trivial⟩
             all_goals first|exact Or.inl rfl|exact bB
            refine⟨?_,trivial⟩
            refine⟨?_,trivial⟩
            refine⟨fun _=>rfl,(.sl r (M.map an Bg)),g,nx,fun ρ=>by cbv;exact us hc (aC hI hM vv),?_⟩;cbv
            refine⟨?_,trivial⟩
            all_goals first|exact Or.inl rfl|exact bB
           refine⟨?_,?_⟩
           ·refine⟨fun _=>rfl,(.sl r (M.map an Bg)),g,nx,fun ρ=>by cbv;exact us hc (aC hI hM vv),?_⟩;cbv
            refine⟨?_,?_⟩
            ·refine⟨?_,trivial⟩
             refine⟨?_,trivial⟩
             all_goals first|exact Or.inl rfl|exact bB
            refine⟨?_,trivial⟩
            refine⟨?_,trivial⟩
            refine⟨?_,trivial⟩
            all_goals first|exact Or.inl rfl|exact bB
           refine⟨?_,trivial⟩
           refine⟨?_,?_⟩
           ·refine⟨?_,trivial⟩
            refine⟨fun _=>rfl,(.sl r (M.map an Bg)),g,nx,fun ρ=>by cbv;exact us hc (aC hI hM vv),?_⟩;cbv
            refine⟨?_,trivial⟩
            all_goals first|exact Or.inl rfl|exact bB
           refine⟨?_,trivial⟩
           refine⟨fun _=>rfl,(.sl r (M.map an Bg)),g,nx,fun ρ=>by cbv;exact us hc (aC hI hM vv),?_⟩;cbv
           refine⟨?_,trivial⟩
           refine⟨?_,trivial⟩
           all_goals first|exact Or.inl rfl|exact bB
          cbv
          refine letE h fun VU R8 h=>⟨_,⟨rfl,rfl,rfl,TO (f:=(bM M r)) (g:=(fun y=>[AV.sl r (M.map an y)])) hM (n:=3) (fun _=>rfl) (db M r) (av:=(fun y=>AV.sl r (M.map an y))) (fun _=>rfl) R8 rfl (aE hM)⟩,?_⟩;cbv
          refine letE h fun n33 Sz h=>⟨_,ak hI hM Sz,?_⟩;cbv
          refine lp h (fun CI=>[(29,(vi CI))]) (fun CI=>[]) fun VL m6 qA CI h=>?_
          dsimp only[eD]at h
          cbv
          refine si h (fun h=>?_) fun h=>?_
          ·cbv
           refine ab h fun oP Av h=>⟨_,ai hM Av rfl,?_⟩;cbv
           refine ab h fun Hc DF h=>⟨_,ai hM DF rfl,?_⟩;cbv
           refine letE h fun b37 ad9 h=>⟨_,UK (f:=(bM M r)) ad9 rfl (db M r) (fun _=>rfl) rfl rfl,?_⟩;cbv
           refine ab h fun Vn Mj h=>⟨_,fun hp=>us hc (c6 hI hM (aw Mj hp.1)),?_⟩;cbv
           refine si h (fun h=>?_) fun h=>?_
           ·cbv
            refine⟨?_,trivial⟩
            refine⟨_,bJ (enc:=an) (x:=oP) hM (af _) rfl,?_⟩;cbv
            refine⟨?_,trivial⟩
            refine ab h fun QS MJ h=>⟨_,au (enc:=an) hI hM MJ (fun _=>rfl) rfl (fun _=>rfl),?_⟩;cbv
            refine⟨?_,trivial⟩
            cases h
            first|exact Or.inl rfl|exact bB
           cbv
           exact bN (qA _ _ h)
          cbv
          refine letE h fun n43 HU h=>⟨_,ak hI hM HU,?_⟩;cbv
          refine ab h fun Fu Az h=>⟨_,_,dw (enc:=an) hI hM Az (by decide) rfl,?_⟩;cbv
          refine letE h fun OB MG h=>?_
          refine letE h fun n46 Mx h=>⟨_,_,fZ (enc:=an) hI hM MG Mx rfl (fun _=>rfl) (fun _=>rfl),?_⟩;cbv
          refine⟨_,ak hI hM HU,?_⟩;cbv
          refine si h (fun h=>?_) fun h=>?_
          ·as_aux_lemma=>
            cbv
            refine ab h fun P6 MF h=>?_
            apply Exists.intro;refine⟨?_,_,rfl,?_⟩
            ·cbv
             refine⟨?_,trivial⟩
             refine⟨?_,trivial⟩
             refine⟨_,bJ (enc:=(aZ M r)) (x:=(⟨rQ.kind,rQ.name,rQ.num,[]⟩:aL)) hM ⟨rfl,rfl,rfl,(aE hM),trivial⟩ rfl,?_⟩;cbv
             refine⟨?_,trivial⟩
             refine⟨_,au (enc:=(aZ M r)) hI hM MF (fun _=>rfl) rfl (fun _=>rfl),?_⟩;cbv
             refine⟨?_,trivial⟩
             all_goals exact .inl rfl
            cbv
            refine letE h fun Lr DI h=>⟨_,ak hI hM DI,?_⟩;cbv
            refine⟨_,bJ (enc:=an) (x:=(I.wrap .i64 (I.sub Lr 1))) hM (af _) rfl,?_⟩;cbv
            refine Oy h fun QQ k51 XJ adp h=>?_
            dsimp only at h
            refine⟨_,_,_,_,⟨rfl,rfl,rfl,O1 (f:=(bM M r)) (en:=an) hI hM (n:=3) (fun _=>rfl) (db M r) adp rfl⟩,fun z53=>?_⟩;cbv
            refine ab h fun OA ME h=>⟨_,au (enc:=an) hI hM ME (fun _=>rfl) rfl (fun _=>rfl),?_⟩;cbv
            refine ab h fun QP MD h=>⟨_,O2 (f:=(bM M r)) (en:=an) hI hM (kz:=3) (fun _=>rfl) MD,?_⟩;cbv
            refine⟨?_,trivial⟩
            refine⟨_,bJ (enc:=an) (x:=(I.wrap .i64 (I.sub Lr 1))) hM (af _) rfl,?_⟩;cbv
            refine⟨?_,trivial⟩
            refine ab h fun M9 Fp h=>⟨_,au (enc:=an) hI hM Fp (fun _=>rfl) rfl (fun _=>rfl),?_⟩;cbv
            refine⟨?_,trivial⟩
            cases h
            first|exact Or.inl rfl|exact bB
          cbv
          refine ab h fun u57 adf h=>?_
          refine ab h fun l58 adZ h=>?_
          apply Exists.intro;refine⟨?_,_,rfl,?_⟩
          ·cbv
           refine⟨?_,trivial⟩
           refine⟨?_,trivial⟩
           refine⟨_,bJ (enc:=(aZ M r)) (x:=(⟨rQ.kind,rQ.name,rQ.num,OB⟩:aL)) hM ⟨rfl,rfl,rfl,(cX hM adf),trivial⟩ rfl,?_⟩;cbv
           refine⟨?_,trivial⟩
           refine⟨_,au (enc:=(aZ M r)) hI hM adZ (fun _=>rfl) rfl (fun _=>rfl),?_⟩;cbv
           refine⟨?_,trivial⟩
           all_goals exact .inl rfl
          cbv
          refine letE h fun n59 adz h=>⟨_,ak hI hM adz,?_⟩;cbv
          refine⟨_,bJ (enc:=an) (x:=(I.wrap .i64 (I.sub n59 1))) hM (af _) rfl,?_⟩;cbv
          refine Oy h fun l61 XR l63 ado h=>?_
          dsimp only at h
          refine⟨_,_,_,_,⟨rfl,rfl,rfl,O1 (f:=(bM M r)) (en:=an) hI hM (n:=3) (fun _=>rfl) (db M r) ado rfl⟩,fun z64=>?_⟩;cbv
          refine ab h fun P4 SR h=>⟨_,au (enc:=an) hI hM SR (fun _=>rfl) rfl (fun _=>rfl),?_⟩;cbv
          refine ab h fun Ls HW h=>⟨_,O2 (f:=(bM M r)) (en:=an) hI hM (kz:=3) (fun _=>rfl) HW,?_⟩;cbv
          refine⟨?_,trivial⟩
          refine⟨_,bJ (enc:=an) (x:=(I.wrap .i64 (I.sub n59 1))) hM (af _) rfl,?_⟩;cbv
          refine⟨?_,trivial⟩
          refine ab h fun l67 adY h=>⟨_,au (enc:=an) hI hM adY (fun _=>rfl) rfl (fun _=>rfl),?_⟩;cbv
          refine⟨?_,trivial⟩
          cases h
          first|exact Or.inl rfl|exact bB
         clear hj
         cbv
         exact bN (qB _ _ h)
       cbv
       refine ab h fun ZS R5 h=>?_
       apply Exists.intro;refine⟨?_,_,rfl,?_⟩
       ·cbv
        refine⟨_,ai hM R5 rfl,?_⟩;cbv
        refine⟨?_,trivial⟩
        all_goals exact .inl rfl
       cbv
       refine ab h fun k73 ail h=>?_
       (first|refine⟨_,⟨rfl,rfl,aM hI ail⟩,?_⟩|refine⟨_,aM hI ail,?_⟩)
       cbv
       refine ab h fun ZR R4 h=>⟨_,_,rfl,bc hM R4,rfl,?_⟩;cbv
       refine ab h fun k75 anu h=>⟨_,bS hI hM anu,?_⟩;cbv
       refine ab h fun ZQ Mm h=>?_
       refine ab h fun l77 adU h=>?_
       refine ab h fun Ih JU h=>?_
       apply Exists.intro;refine⟨?_,_,rfl,?_⟩
       ·cbv
        refine⟨_,_,_,⟨rfl,bc (enc:=(ao M r)) hM Mm,rfl,rfl⟩,?_⟩;cbv
        refine⟨?_,trivial⟩
        refine⟨_,bJ (enc:=(az M r)) (x:=(⟨xb.head,xb.kids,wU,ZS⟩:ae)) hM (af _) rfl,?_⟩;cbv
        refine⟨?_,trivial⟩
        refine⟨_,au (enc:=(az M r)) hI hM adU (fun _=>rfl) rfl (fun _=>rfl),?_⟩;cbv
        refine⟨?_,trivial⟩
        (first|refine⟨_,rO (enc:=(ao M r)) hI hM Mm JU (show 2<3 from by decide) rfl,?_⟩|refine⟨rfl,rfl,rfl,_,rO (enc:=(ao M r)) hI hM Mm JU (show 2<3 from by decide) rfl,?_⟩)
        cbv
        all_goals exact .inl rfl
       cbv
       try(refine⟨rfl,?_⟩;cbv)
       refine lZ hI ?_;cbv
       exact bN (qC _ _ h)
     cbv
     exact bN (iI _ _ h)
   cbv
   try(refine⟨rfl,?_⟩;cbv)
   refine ab h fun u83 amX h=>?_
   obtain rfl:=Option.some.inj h
   cbv
   all_goals(repeat' apply And.intro)
   all_goals first|trivial|rfl|exact(aE hM)|exact(cX hM amX)
 cbv
 cases h
end Ab
