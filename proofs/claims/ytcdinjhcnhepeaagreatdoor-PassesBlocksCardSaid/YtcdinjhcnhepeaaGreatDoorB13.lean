/- PassesBlocks holds of all cores and names (no condition): a part of the proof: an abstract interpreter of the code that is proved sound, models of the functions, and laws of these models. -/
import Derived.Test.YtcdinjhcnhepeaaGreatDoorB03
import Derived.Test.YtcdinjhcnhepeaaGreatDoorB04
import Derived.Test.YtcdinjhcnhepeaaGreatDoorB05
set_option linter.unusedVariables false
set_option linter.unusedSimpArgs false
set_option linter.unusedSectionVars false
namespace Ab
open Go Go.Proofs.Tryz
set_option maxHeartbeats 100000000
set_option maxRecDepth 100000
variable{I:Pr}(hI:I=al){M:Md}(hM:M= .al){n nx r s p q u rl:Nat}{g:Nat→Option Ob}
 include hI hM
theorem DR{a0:af}{v:af×Int}(h:At I M n a0=some v):
  cv 11 [(.agg (aZ M p a0))] (.gw [(.agg (aZ M r v.1)),(vi v.2)]) g nx:=by
 refine yi func11 c11 r afK aj8 [5] 16 ntmps11 [.cell 2 24,.tmp 3] hI (bp.cons (o7 r) (bp.cons (sm r) (bp.cons (abE r) (bp.cons (abF r) (bp.cons (uW r) (bp.cons (xS r) (sX PP gL))))))) 8 fun call hc=>?_;cbv;refine ag h fun y1 c9 h=>⟨_,_,_,us hc (dh hI hM c9),?_⟩;cbv;refine si h (fun h=>by cbv;cases h;exact fin) fun h=>?_;cbv;refine letE h fun n2 oC h=>⟨_,an hI hM oC,?_⟩;cbv;refine kD n (fun mK aW=>?_);cbv;refine si h (fun h=>?_) fun h=>?_
 ·as_aux_lemma=>
   cbv;refine ag h fun x3 me h=>⟨_,ao hM me rfl,?_⟩;cbv;refine⟨_,Q9 (by rfl),?_⟩;cbv;refine ag h fun l4 M9 h=>⟨qP hI M9,_,_,zd (enc:=(ay M r)) hI hM M9 (by have e0:=aJ (enc:=(az M r)) hM;simp only[ay,vi,vs,vb,cq,eD,e0]),?_⟩;cbv;refine aW _ (lpD h [50009] (fun(l5,z6)=>[(19,(vi z6)),(20,.any)]) (fun(l5,z6)=>[(50007,.box [(.eW (.s 50031) (M.ln l5))]),(50031,.ow (.sl 3) none (M.map (ay M r) l5))]) fun D0 m2 eM st h=>?_);obtain⟨l5,z6⟩:=st;dsimp only[wD]at h;cbv;refine si h (fun h=>?_) fun h=>?_
   ·cbv;refine ag h fun x7 RW h=>⟨_,ao hM RW rfl,?_⟩;cbv;refine⟨_,Q9 (by rfl),?_⟩;cbv;refine ag h fun l8 RZ h=>?_
    (refine⟨_,_,FF (enc:=(ay M r)) hI hM RZ ?_,?_⟩;next=>have e0:=aJ (enc:=(az M r)) hM;simp only[ay,vi,vs,vb,cq,eD,e0])
    cbv;exact bY (eM _ _ h)
   cbv;intro l;cbv;refine letE h fun yG BQ h=>⟨_,an hI hM BQ,?_⟩;cbv;refine lp h (fun(gJ,lV)=>[(10,(vi lV))]) (fun(gJ,lV)=>[(5,.box [.any]),(50031,.ow (.sl 3) none (M.map (ay M r) gJ))]) fun Nl m3 jO st h=>?_;obtain⟨gJ,lV⟩:=st;dsimp only[wC]at h;cbv;refine si h (fun h=>?_) fun h=>?_
   ·as_aux_lemma=>
     cbv;refine ag h fun yp Ft h=>⟨_,ao hM Ft rfl,?_⟩;cbv;refine letE h fun n15 ag7 h=>⟨_,an hI hM ag7,?_⟩;cbv;refine lp h (fun(l16,GS)=>[(18,(vi GS))]) (fun(l16,GS)=>[(5,.box [.any]),(50031,.ow (.sl 3) none (M.map (ay M r) l16))]) fun Tf m4 ni st h=>?_;obtain⟨l16,GS⟩:=st;dsimp only[wB]at h;cbv;refine si h (fun h=>?_) fun h=>?_
     ·as_aux_lemma=>
       cbv;refine ag h fun yo Og h=>⟨_,ao hM Og rfl,?_⟩;cbv;(try(refine⟨⟨rfl,rfl,rfl⟩,?_⟩;cbv));refine letE h fun Sv ahv h=>⟨_,⟨rfl,gA (enc:=aq) hI hM ahv rfl⟩,?_⟩;cbv;refine ag h fun u20 RY h=>?_
       (first|refine⟨_,⟨aS hI hM RY,qh (enc:=aq) (l:=[lV,GS]) hI hM rfl⟩,?_⟩|refine⟨_,⟨rfl,aS hI hM RY,rfl,rfl,qh (enc:=aq) (l:=[lV,GS]) hI hM rfl⟩,?_⟩)
       cbv;(try(refine⟨rfl,?_⟩;cbv));refine ag h fun u21 Oh h=>?_
       (first|refine⟨⟨rfl,aS hI hM Oh,rfl⟩,?_⟩|refine⟨⟨aS hI hM Oh,trivial⟩,?_⟩|refine⟨aS hI hM Oh,?_⟩)
       cbv;(try(refine⟨⟨by decide,by decide⟩,?_⟩;cbv));refine⟨_,Qm (enc:=(Gr (bU M r) (fun y=>[AV.sl r (M.map aq y)]))) hM,?_⟩;cbv;apply Exists.intro;refine⟨?_,_,rfl,?_⟩
       ·cbv;(repeat' first|exact .inl rfl|exact trivial|apply And.intro);all_goals exact bn
       cbv;refine letE h fun n22 ag4 h=>⟨_,an hI hM ag4,?_⟩;cbv;refine lp h (fun(vY,H9,Ep,zU)=>[(56,(vi zU))]) (fun(vY,H9,Ep,zU)=>[(12856004,.ow (.mp [.int .i64,.str,.int .i64] none) none (M.map (Gr (bU M r) (fun y=>[AV.sl r (M.map aq y)])) Ep)),(12856006,.box [(vs yo.head),(vi yo.aN),(.gs r (.c 12856006 2) (M.map (bB M r) vY)),(vi 0),(.gs r (.c 12856006 4) (M.map aq H9)),(.v .nilFunc)])]) fun TG m5 oX st h=>?_;obtain⟨vY,H9,Ep,zU⟩:=st;dsimp only[wA]at h;cbv;refine si h (fun h=>?_) fun h=>?_
       ·as_aux_lemma=>
         cbv;refine ag h fun qy UT h=>⟨_,ao hM UT rfl,?_⟩;cbv;refine aph h fun ud j29 j30 hj h=>?_;dsimp only at h;refine aY none [(13,.any),(14,.any)] [(12856004,.ow (.mp [.int .i64,.str,.int .i64] none) none (M.map (Gr (bU M r) (fun y=>[AV.sl r (M.map aq y)])) ud)),(12856006,.box [(vs yo.head),(vi yo.aN),(.gs r (.c 12856006 2) (M.map (bB M r) j29)),(vi 0),(.gs r (.c 12856006 4) (M.map aq j30)),(.v .nilFunc)])] g nx ?_ ?_
         ·replace h:=hj;cbv;refine⟨?_,?_⟩
          ·refine⟨?_,trivial⟩;refine ag h fun No RT h=>?_;refine aY none [(8,(.ptr (.s 12857008) 0)),(9,(.sl r (M.map aq No)))] [(12857008,.box [(vi qy.kind),(vs qy.name),(vi qy.num)])] g nx ?_ ?_
           ·cbv;(repeat' first|exact .inl rfl|exact trivial|(refine⟨fun _=>rfl,(.sl r (M.map aq No)),g,nx,fun ρ=>by cbv;exact us hc (aT hI hM RT),?_⟩;cbv)|apply And.intro);all_goals exact bn
           cbv;refine letE h fun Zc UR h=>⟨_,⟨rfl,rfl,rfl,WG (f:=(bU M r)) (g:=(fun y=>[AV.sl r (M.map aq y)])) hM (n:=3) (fun _=>rfl) (dC M r) (av:=(fun y=>AV.sl r (M.map aq y))) (fun _=>rfl) UR rfl (aJ hM)⟩,?_⟩;cbv;refine letE h fun n33 ag2 h=>⟨_,an hI hM ag2,?_⟩;cbv;refine lp h (fun vV=>[(29,(vi vV))]) (fun vV=>[]) fun Rm6 m6 rG vV h=>?_;dsimp only[qO]at h;cbv;refine si h (fun h=>?_) fun h=>?_
           ·cbv;refine ag h fun rz JD h=>⟨_,ao hM JD rfl,?_⟩;cbv;refine ag h fun I5 Fq h=>⟨_,ao hM Fq rfl,?_⟩;cbv;refine letE h fun b37 ahA h=>⟨_,XO (f:=(bU M r)) ahA rfl (dC M r) (fun _=>rfl) rfl rfl,?_⟩;cbv;refine ag h fun y38 UG h=>⟨_,fun hp=>us hc (cL hI hM (aD UG hp.1)),?_⟩;cbv;refine si h (fun h=>?_) fun h=>?_
            ·cbv;refine⟨?_,trivial⟩;refine⟨_,cC (enc:=aq) (x:=rz) hM (ak _) rfl,?_⟩;cbv;refine⟨?_,trivial⟩;refine ag h fun Tt OE h=>⟨_,ax (enc:=aq) hI hM OE (fun _=>rfl) rfl (fun _=>rfl),?_⟩;cbv;refine⟨?_,trivial⟩;cases h;first|exact Or.inl rfl|exact bn
            cbv;exact bY (rG _ _ h)
           cbv;refine letE h fun n43 JI h=>⟨_,an hI hM JI,?_⟩;cbv;refine ag h fun Eo FA h=>⟨_,_,gf (enc:=aq) hI hM FA (by decide) rfl,?_⟩;cbv;refine letE h fun Qv OB h=>?_;refine letE h fun OT JH h=>⟨_,_,ix (enc:=aq) hI hM OB JH rfl (fun _=>rfl) (fun _=>rfl),?_⟩;cbv;refine⟨_,an hI hM JI,?_⟩;cbv;refine si h (fun h=>?_) fun h=>?_
           ·cbv;refine ag h fun Ml OA h=>?_;apply Exists.intro;refine⟨?_,_,rfl,?_⟩
            ·cbv;(repeat' first|exact .inl rfl|exact trivial|(refine⟨_,cC (enc:=(bB M r)) (x:=(⟨qy.kind,qy.name,qy.num,[]⟩:aH)) hM ⟨rfl,rfl,rfl,(aJ hM),trivial⟩ rfl,?_⟩;cbv)|(refine⟨_,ax (enc:=(bB M r)) hI hM OA (fun _=>rfl) rfl (fun _=>rfl),?_⟩;cbv)|apply And.intro);all_goals exact bn
            cbv;refine letE h fun Na Fv h=>⟨_,an hI hM Fv,?_⟩;cbv;refine⟨_,cC (enc:=aq) (x:=(I.wrap .i64 (I.sub Na 1))) hM (ak _) rfl,?_⟩;cbv;refine Qt h fun YP k51 YO agJ h=>?_;dsimp only at h;refine⟨_,_,_,_,⟨rfl,rfl,rfl,QY (f:=(bU M r)) (en:=aq) hI hM (n:=3) (fun _=>rfl) (dC M r) agJ rfl⟩,fun z53=>?_⟩;cbv;refine ag h fun Ts Oz h=>⟨_,ax (enc:=aq) hI hM Oz (fun _=>rfl) rfl (fun _=>rfl),?_⟩;cbv;refine ag h fun Tq Oy h=>⟨_,QZ (f:=(bU M r)) (en:=aq) hI hM (kz:=3) (fun _=>rfl) Oy,?_⟩;cbv;refine⟨?_,trivial⟩;refine⟨_,cC (enc:=aq) (x:=(I.wrap .i64 (I.sub Na 1))) hM (ak _) rfl,?_⟩;cbv;refine⟨?_,trivial⟩;refine ag h fun Sq Hg h=>⟨_,ax (enc:=aq) hI hM Hg (fun _=>rfl) rfl (fun _=>rfl),?_⟩;cbv;refine⟨?_,trivial⟩;cases h;first|exact Or.inl rfl|exact bn
           cbv;refine ag h fun u57 agx h=>?_;refine ag h fun O5 ahp h=>?_;apply Exists.intro;refine⟨?_,_,rfl,?_⟩
           ·cbv;(repeat' first|exact .inl rfl|exact trivial|(refine⟨_,cC (enc:=(bB M r)) (x:=(⟨qy.kind,qy.name,qy.num,Qv⟩:aH)) hM ⟨rfl,rfl,rfl,(eF hM agx),trivial⟩ rfl,?_⟩;cbv)|(refine⟨_,ax (enc:=(bB M r)) hI hM ahp (fun _=>rfl) rfl (fun _=>rfl),?_⟩;cbv)|apply And.intro);all_goals exact bn
           cbv;refine letE h fun n59 agW h=>⟨_,an hI hM agW,?_⟩;cbv;refine⟨_,cC (enc:=aq) (x:=(I.wrap .i64 (I.sub n59 1))) hM (ak _) rfl,?_⟩;cbv;refine Qt h fun l61 k62 l63 agI h=>?_;dsimp only at h;refine⟨_,_,_,_,⟨rfl,rfl,rfl,QY (f:=(bU M r)) (en:=aq) hI hM (n:=3) (fun _=>rfl) (dC M r) agI rfl⟩,fun z64=>?_⟩;cbv;refine ag h fun l65 aho h=>⟨_,ax (enc:=aq) hI hM aho (fun _=>rfl) rfl (fun _=>rfl),?_⟩;cbv;refine ag h fun YN Ow h=>⟨_,QZ (f:=(bU M r)) (en:=aq) hI hM (kz:=3) (fun _=>rfl) Ow,?_⟩;cbv;refine⟨?_,trivial⟩;refine⟨_,cC (enc:=aq) (x:=(I.wrap .i64 (I.sub n59 1))) hM (ak _) rfl,?_⟩;cbv;refine⟨?_,trivial⟩;refine ag h fun l67 ahn h=>⟨_,ax (enc:=aq) hI hM ahn (fun _=>rfl) rfl (fun _=>rfl),?_⟩;cbv;refine⟨?_,trivial⟩;cases h;first|exact Or.inl rfl|exact bn
          refine⟨?_,trivial⟩;refine ag h fun No RT h=>?_;refine aY none [(8,(.ptr (.s 12857008) 0)),(9,(.sl r (M.map aq No)))] [(12857008,.box [(vi qy.kind),(vs qy.name),(vi qy.num)])] g nx ?_ ?_
          ·cbv;(repeat' first|exact .inl rfl|exact trivial|(refine⟨fun _=>rfl,(.sl r (M.map aq No)),g,nx,fun ρ=>by cbv;exact us hc (aT hI hM RT),?_⟩;cbv)|apply And.intro);all_goals exact bn
          cbv;refine letE h fun Zc UR h=>⟨_,⟨rfl,rfl,rfl,WG (f:=(bU M r)) (g:=(fun y=>[AV.sl r (M.map aq y)])) hM (n:=3) (fun _=>rfl) (dC M r) (av:=(fun y=>AV.sl r (M.map aq y))) (fun _=>rfl) UR rfl (aJ hM)⟩,?_⟩;cbv;refine letE h fun n33 ag2 h=>⟨_,an hI hM ag2,?_⟩;cbv;refine lp h (fun vV=>[(29,(vi vV))]) (fun vV=>[]) fun Rm6 m6 rG vV h=>?_;dsimp only[qO]at h;cbv;refine si h (fun h=>?_) fun h=>?_
          ·cbv;refine ag h fun rz JD h=>⟨_,ao hM JD rfl,?_⟩;cbv;refine ag h fun I5 Fq h=>⟨_,ao hM Fq rfl,?_⟩;cbv;refine letE h fun b37 ahA h=>⟨_,XO (f:=(bU M r)) ahA rfl (dC M r) (fun _=>rfl) rfl rfl,?_⟩;cbv;refine ag h fun y38 UG h=>⟨_,fun hp=>us hc (cL hI hM (aD UG hp.1)),?_⟩;cbv;refine si h (fun h=>?_) fun h=>?_
           ·cbv;refine⟨?_,trivial⟩;refine⟨_,cC (enc:=aq) (x:=rz) hM (ak _) rfl,?_⟩;cbv;refine⟨?_,trivial⟩;refine ag h fun Tt OE h=>⟨_,ax (enc:=aq) hI hM OE (fun _=>rfl) rfl (fun _=>rfl),?_⟩;cbv;refine⟨?_,trivial⟩;cases h;first|exact Or.inl rfl|exact bn
           cbv;exact bY (rG _ _ h)
          cbv;refine letE h fun n43 JI h=>⟨_,an hI hM JI,?_⟩;cbv;refine ag h fun Eo FA h=>⟨_,_,gf (enc:=aq) hI hM FA (by decide) rfl,?_⟩;cbv;refine letE h fun Qv OB h=>?_;refine letE h fun OT JH h=>⟨_,_,ix (enc:=aq) hI hM OB JH rfl (fun _=>rfl) (fun _=>rfl),?_⟩;cbv;refine⟨_,an hI hM JI,?_⟩;cbv;refine si h (fun h=>?_) fun h=>?_
          ·cbv;refine ag h fun Ml OA h=>?_;apply Exists.intro;refine⟨?_,_,rfl,?_⟩
           ·cbv;(repeat' first|exact .inl rfl|exact trivial|(refine⟨_,cC (enc:=(bB M r)) (x:=(⟨qy.kind,qy.name,qy.num,[]⟩:aH)) hM ⟨rfl,rfl,rfl,(aJ hM),trivial⟩ rfl,?_⟩;cbv)|(refine⟨_,ax (enc:=(bB M r)) hI hM OA (fun _=>rfl) rfl (fun _=>rfl),?_⟩;cbv)|apply And.intro);all_goals exact bn
           cbv;refine letE h fun Na Fv h=>⟨_,an hI hM Fv,?_⟩;cbv;refine⟨_,cC (enc:=aq) (x:=(I.wrap .i64 (I.sub Na 1))) hM (ak _) rfl,?_⟩;cbv;refine Qt h fun YP k51 YO agJ h=>?_;dsimp only at h;refine⟨_,_,_,_,⟨rfl,rfl,rfl,QY (f:=(bU M r)) (en:=aq) hI hM (n:=3) (fun _=>rfl) (dC M r) agJ rfl⟩,fun z53=>?_⟩;cbv;refine ag h fun Ts Oz h=>⟨_,ax (enc:=aq) hI hM Oz (fun _=>rfl) rfl (fun _=>rfl),?_⟩;cbv;refine ag h fun Tq Oy h=>⟨_,QZ (f:=(bU M r)) (en:=aq) hI hM (kz:=3) (fun _=>rfl) Oy,?_⟩;cbv;refine⟨?_,trivial⟩;refine⟨_,cC (enc:=aq) (x:=(I.wrap .i64 (I.sub Na 1))) hM (ak _) rfl,?_⟩;cbv;refine⟨?_,trivial⟩;refine ag h fun Sq Hg h=>⟨_,ax (enc:=aq) hI hM Hg (fun _=>rfl) rfl (fun _=>rfl),?_⟩;cbv;refine⟨?_,trivial⟩;cases h;first|exact Or.inl rfl|exact bn
          cbv;refine ag h fun u57 agx h=>?_;refine ag h fun O5 ahp h=>?_;apply Exists.intro;refine⟨?_,_,rfl,?_⟩
          ·cbv;(repeat' first|exact .inl rfl|exact trivial|(refine⟨_,cC (enc:=(bB M r)) (x:=(⟨qy.kind,qy.name,qy.num,Qv⟩:aH)) hM ⟨rfl,rfl,rfl,(eF hM agx),trivial⟩ rfl,?_⟩;cbv)|(refine⟨_,ax (enc:=(bB M r)) hI hM ahp (fun _=>rfl) rfl (fun _=>rfl),?_⟩;cbv)|apply And.intro);all_goals exact bn
          cbv;refine letE h fun n59 agW h=>⟨_,an hI hM agW,?_⟩;cbv;refine⟨_,cC (enc:=aq) (x:=(I.wrap .i64 (I.sub n59 1))) hM (ak _) rfl,?_⟩;cbv;refine Qt h fun l61 k62 l63 agI h=>?_;dsimp only at h;refine⟨_,_,_,_,⟨rfl,rfl,rfl,QY (f:=(bU M r)) (en:=aq) hI hM (n:=3) (fun _=>rfl) (dC M r) agI rfl⟩,fun z64=>?_⟩;cbv;refine ag h fun l65 aho h=>⟨_,ax (enc:=aq) hI hM aho (fun _=>rfl) rfl (fun _=>rfl),?_⟩;cbv;refine ag h fun YN Ow h=>⟨_,QZ (f:=(bU M r)) (en:=aq) hI hM (kz:=3) (fun _=>rfl) Ow,?_⟩;cbv;refine⟨?_,trivial⟩;refine⟨_,cC (enc:=aq) (x:=(I.wrap .i64 (I.sub n59 1))) hM (ak _) rfl,?_⟩;cbv;refine⟨?_,trivial⟩;refine ag h fun l67 ahn h=>⟨_,ax (enc:=aq) hI hM ahn (fun _=>rfl) rfl (fun _=>rfl),?_⟩;cbv;refine⟨?_,trivial⟩;cases h;first|exact Or.inl rfl|exact bn
         clear hj;cbv;exact bY (oX _ _ h)
       cbv;refine ag h fun x72 UM h=>?_;apply Exists.intro;refine⟨?_,_,rfl,?_⟩
       ·cbv;(repeat' first|exact .inl rfl|exact trivial|(refine⟨_,ao hM UM rfl,?_⟩;cbv)|apply And.intro);all_goals exact bn
       cbv;refine ag h fun k73 amo h=>?_
       (first|refine⟨_,⟨rfl,rfl,aK hI amo⟩,?_⟩|refine⟨_,aK hI amo,?_⟩)
       cbv;refine ag h fun x74 UL h=>⟨_,_,rfl,bA hM UL,rfl,?_⟩;cbv;refine ag h fun k75 asn h=>⟨_,gG hI hM asn,?_⟩;cbv;refine ag h fun x76 N8 h=>?_;refine ag h fun l77 ar9 h=>?_;refine ag h fun O2 R0 h=>?_;apply Exists.intro;refine⟨?_,_,rfl,?_⟩
       ·cbv;(repeat' first|exact .inl rfl|exact trivial|(refine⟨_,_,_,⟨rfl,bA (enc:=(ay M r)) hM N8,rfl,rfl⟩,?_⟩;cbv)|(refine⟨_,cC (enc:=(az M r)) (x:=(⟨yo.head,yo.aN,vY,x72⟩:ah)) hM (ak _) rfl,?_⟩;cbv)|(refine⟨_,ax (enc:=(az M r)) hI hM ar9 (fun _=>rfl) rfl (fun _=>rfl),?_⟩;cbv)|((first|refine⟨_,su (enc:=(ay M r)) hI hM N8 R0 (show 2<3 from by decide) rfl,?_⟩|refine⟨rfl,rfl,rfl,_,su (enc:=(ay M r)) hI hM N8 R0 (show 2<3 from by decide) rfl,?_⟩);cbv)|apply And.intro);all_goals exact bn
       cbv;(try(refine⟨rfl,?_⟩;cbv));refine lW hI ?_;cbv;exact bY (ni _ _ h)
     cbv;exact bY (jO _ _ h)
   cbv;(try(refine⟨rfl,?_⟩;cbv));refine ag h fun u83 arP h=>?_;obtain rfl:=oJ h;cbv;(all_goals(repeat' apply And.intro));all_goals first|trivial|rfl|exact(aJ hM)|exact(eF hM arP)
 cbv;cases h
end Ab
