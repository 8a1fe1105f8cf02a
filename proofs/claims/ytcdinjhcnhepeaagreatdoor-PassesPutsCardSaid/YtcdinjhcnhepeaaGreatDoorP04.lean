/- PassesPuts holds of every core (no condition): a part of the proof: an abstract interpreter of the code that is proved sound, models of the functions, and laws of these models. -/
import Derived.Test.YtcdinjhcnhepeaaGreatDoorP02
import Derived.Test.YtcdinjhcnhepeaaGreatDoorP03
set_option linter.unusedVariables false
set_option linter.unusedSimpArgs false
namespace Ab
open Go Go.Proofs.Tryz
set_option maxHeartbeats 100000000
set_option maxRecDepth 100000
variable{I:Pr}(hI:I=an){M:Md}(hM:M= .an){n nx r s p q u rl:Nat}{g:Nat→Option Ob}
 include hI hM
theorem aD{yj:ByteArray}{yi:Int}{Ey:List aI}{yh:Int}{nu:List Int}{a1:List Int}{v:List Int}(h:bu I M n yj yi Ey yh nu a1=some v):
  bQ 55 [(.aP rl [(vs yj),(vi yi),(.sl r (M.map (aW M r) Ey)),(vi yh),(.sl r (M.map ao nu)),(.v .nilFunc)] 0),(.sl p (M.map ao a1))] (.sl r (M.map ao v)) g nx:=by
 refine cC func55 c55 r G0 Ig [] 26 ntmps55 [.tmp 4] hI fun call hc=>?_
 cbv
 refine letE h fun n1 cY h=>⟨_,ak hI hM cY,?_⟩;cbv
 refine lp h (fun(z2,l3)=>[(5,(.gs r (.l 23) (M.map ao l3))),(10,(vi z2))]) (fun _=>[]) fun jJ m1 aQ st h=>?_
 obtain⟨z2,l3⟩:=st
 dsimp only[dc]at h
 cbv
 refine si h (fun h=>?_) fun h=>by cbv;cases h;exact fin
 cbv
 refine ae h fun x4 qh h=>⟨_,al hM qh rfl,?_⟩;cbv
 refine ae h fun x5 pI h=>⟨_,al hM pI rfl,?_⟩;cbv
 refine⟨_,bJ (enc:=ao) (x:=x5) hM (ah _) rfl,?_⟩;cbv
 refine ae h fun l6 LV h=>⟨_,aw (enc:=ao) hI hM LV (fun _=>rfl) rfl (fun _=>rfl),?_⟩;cbv
 exact bN (aQ _ _ h)
end Ab
namespace Ab
open Go
set_option maxHeartbeats 4000000
set_option maxRecDepth 100000
abbrev bW(M:Md)(r:Nat)(br:ag)(m:Nat)(o6:List AV)(l:List Bool):List (Nat×Ob):=
 [(3,.box [.iq (.s 12) m]),(4,.box [.fn (.func 111) [.ptr (.s 3) 0,.aP r (az M r br) 0,.ptr (.s 4) 0]]),(6,.box o6),(12,.arr 1 (M.map bL l))]
structure Hok(M:Md)(r:Nat)(br:ag)(m:Nat)(o6:List AV)(g:Nat→Option Ob)(nx:Nat)(t:List (Nat×AV))(up:List Fr):Prop where
 ok: ∀l,Pf ⟨36,t,bW M r br m o6 l,[],g,nx,up,false⟩=true
 t:wkT t t
 u:wkU up up
abbrev Hand:=YH→Nat→List AV→St→bd→Prop
def M7(I:Pr)(M:Md)(n:Nat)(r:Nat)(br:ag)(m:Nat)(o6:List AV)(g:Nat→Option Ob)(nx:Nat)(k:Nat)(J:Hand):Prop:=
 ∀(yl:YH) (l:List Bool) (x:Int) (l':List Bool) (t:List (Nat×AV)) (up:List Fr) (K:bd),EZ I M n br m k l x=some l'→Hok M r br m o6 g nx t up→
  K (.gd []) ⟨36,t,bW M r br m o6 l',[],g,nx,up,false⟩→J yl 111 [vi x,.ptr (.s 3) 0,.aP r (az M r br) 0,.ptr (.s 4) 0] ⟨36,t,bW M r br m o6 l,[],g,nx,up,false⟩ K
theorem DE{M:Md}{r:Nat}{br:ag}{m:Nat}{o6:List AV}{g:Nat→Option Ob}{nx:Nat}{t0 t1:List (Nat×AV)}{up0:List Fr}{l:List Bool}(h1:SV (bW M r br m o6 l) t1=true)
  (h:Pf ⟨36,t0,bW M r br m o6 l,[],g,nx,up0,false⟩=true):Pf ⟨36,t1,bW M r br m o6 l,[],g,nx,⟨36,t0⟩::up0,false⟩=true:=by
 simp only[Pf,okU,Bool.and_eq_true]at h ⊢
 exact⟨h1,h.2.1,h.1,h.2.2⟩
theorem Zb{I:Pr}(hI:I=an){M:Md}(hM:M= .an){n r:Nat}{br:ag}{m:Nat}{o6:List AV}{g:Nat→Option Ob}{nx:Nat}{k:Nat}{call:ot}(bb:Nat)(J JR:Hand)(yl:YH)
  (hJ:M7 I M n r br m o6 g nx k J){l:List Bool}{x:Int}{l':List Bool}{t0:List (Nat×AV)}{up0:List Fr}{K:bd}(h:EZ I M n br m (k+1) l x=some l')(j8:Hok M r br m o6 g nx t0 up0)
  (hK:K (.gd []) ⟨36,t0,bW M r br m o6 l',[],g,nx,up0,false⟩):
  pt {I:=I,L:=L,ρ:=r,sh:=[],tree:=Nr,call:=call,base:=bb,op:=[],dead:=Oj,sj:=uc (tM 111 (Kq r) fun _=>none),inl:=J,At:=JR,yl:=yl,cl:=fQ,keys:=kD,eqs:=rC} agh
   (Ee 36 [vi x,.ptr (.s 3) 0,.aP r (az M r br) 0,.ptr (.s 4) 0] ⟨36,t0,bW M r br m o6 l,[],g,nx,up0,false⟩)
   (Xv I L [] (bW M r br m o6 l) K):=by
 obtain⟨wrap,add,sub,mul,aN,aU,rG,seq,cat,beq,not,pick,PB,imax,fp,MW,app,Ei,Ik,flat,chunk,rep,set,room,within,nat,DK,mS,nr⟩:=I
 obtain⟨map,ln⟩:=M
 dsimp only[EZ]at h
 cbv
 refine ae h fun k1 qk1 h=>?_
 refine⟨_,aK hI qk1,?_⟩
 cbv
 refine ae h fun x2 NC h=>?_
 refine⟨_,_,rfl,ba hM NC,rfl,?_⟩
 cbv
 refine Cr h rfl (fun h=>?_) (fun h=>?_)
 ·cbv
  obtain rfl:=Option.some.inj h
  have e:=j8.ok l
  cbv at e
  refine⟨by rw[e],?_⟩
  cbv
  exact hK
 ·cbv
  refine ae h fun l3 ND h=>?_
  refine⟨_,aK hI qk1,?_⟩
  cbv
  refine⟨_,cN hI hM NC ND (by decide) rfl rfl,?_⟩
  cbv
  refine ae h fun x4 qh h=>?_
  refine⟨_,al hM qh rfl,?_⟩
  cbv
  refine Cr h rfl (fun h=>?_) (fun h=>?_)
  ·cbv
   refine⟨_,al hM qh rfl,?_⟩
   cbv
   refine letE h fun n5 WW h=>?_
   refine⟨_,ak hI hM WW,?_⟩
   cbv
   refine step_loop h none (fun st=>[(28,vi st.2)]) (fun st=>[(12,.arr 1 (map bL st.1))]) (fun _=>g) (fun _=>nx) ?_ (fun R1 m1 hR1 st h=>?_)
   ·refine⟨rfl,rfl,rfl,rfl,rfl,?_,⟨ah _,ah _,ah _,⟨rfl,rfl⟩,trivial⟩,⟨⟨rfl,j8.t⟩,j8.u⟩,DE rfl (j8.ok l3),rfl⟩
    cbv
    all_goals(repeat' apply And.intro)
    all_goals first|trivial|rfl|exact(aH hM)
   ·obtain⟨l6,z7⟩:=st
    cbv
    refine Cr h rfl (fun h=>?_) (fun h=>?_)
    ·cbv
     refine ae h fun x8 Rr h=>?_
     refine⟨_,al hM Rr rfl,?_⟩
     cbv
     refine ae h fun l9 WY h=>?_
     refine hJ _ l6 x8 l9 _ _ _ WY ⟨fun l=>DE rfl (j8.ok l),?_,⟨⟨rfl,j8.t⟩,j8.u⟩⟩ ?_
     ·cbv
      all_goals(repeat' apply And.intro)
      all_goals first|trivial|rfl|exact(aH hM)
     ·cbv
      refine hR1 (l9,_) _ h ?_
      refine⟨rfl,rfl,rfl,rfl,rfl,?_,⟨ah _,ah _,ah _,⟨rfl,rfl⟩,trivial⟩,⟨⟨rfl,j8.t⟩,j8.u⟩,DE rfl (j8.ok l9),rfl⟩
      cbv
      all_goals(repeat' apply And.intro)
      all_goals first|trivial|rfl|exact(aH hM)
    ·cbv
     obtain rfl:=Option.some.inj h
     have e:=j8.ok l6
     cbv at e
     refine⟨by rw[e],?_⟩
     cbv
     exact hK
  ·cbv
   obtain rfl:=Option.some.inj h
   have e:=j8.ok l3
   cbv at e
   refine⟨by rw[e],?_⟩
   cbv
   exact hK
theorem S0{I:Pr}(hI:I=an){M:Md}(hM:M= .an){n r:Nat}{br:ag}{m:Nat}{o6:List AV}{g:Nat→Option Ob}{nx:Nat}{call:ot}{tr:Nat→Tree}{dd:Nat→List Nat}{op:List Nat}:
  ∀(k base:Nat),M7 I M n r br m o6 g nx k (mK {I:=I,L:=L,ρ:=r,sh:=[],tree:=tr,call:=call,op:=op,dead:=dd,cl:=fQ,keys:=kD,eqs:=rC} (tM 111 (Kq r) fun _=>none) k base).inl
 |0,_=>fun yl l x l' t up K h _ _=>by cases h
 |k+1,base=>fun yl l x l' t up K h j8 hK=>by
  have ih:=S0 hI hM (n:=n) (r:=r) (br:=br) (m:=m) (o6:=o6) (g:=g) (nx:=nx) (call:=call) (tr:=tr) (dd:=dd) (op:=op) k (base*256+111)
  have hb:=Zb hI hM (call:=call) ((base*256+111)*1000) _ (mK {I:=I,L:=L,ρ:=r,sh:=[],tree:=tr,call:=call,op:=op,dead:=dd,cl:=fQ,keys:=kD,eqs:=rC} (tM 111 (Kq r) fun _=>none) k (base*256+111)).At yl ih h j8 hK
  cases k with
  |zero=>exact hb
  |succ k=>exact hb
theorem aid{C0:dK}{T:Nat→Option FI}{n:Nat}{c:Code}{s:St}{rs:List ResultVar}{R:AV→(Nat→Option Ob)→Nat→Prop}
  (h: ∀(J JR:Hand),J=(mK C0 T n 0).inl→pt {C0 with base:=0,sj:=uc T,inl:=J,At:=JR,yl:=fun _ _ _ _=>False} c s (post {C0 with base:=0,sj:=uc T,inl:=J,At:=JR,yl:=fun _ _ _ _=>False} rs R)):
  pt (mK C0 T n 0) c s (post (mK C0 T n 0) rs R):=by
 have:=h _ (mK C0 T n 0).At rfl
 cases n<;>exact this
theorem aik{I:Pr}(hI:I=an){M:Md}(hM:M= .an){n r:Nat}{br:ag}{m:Nat}{o6:List AV}{g:Nat→Option Ob}{nx:Nat}{call:ot}{tr:Nat→Tree}{dd:Nat→List Nat}{op:List Nat}{J:Hand}
  (hJ:J=(mK {I:=I,L:=L,ρ:=r,sh:=[],tree:=tr,call:=call,op:=op,dead:=dd,cl:=fQ,keys:=kD,eqs:=rC} (tM 111 (Kq r) fun _=>none) n 0).inl):M7 I M n r br m o6 g nx n J:=hJ▸S0 hI hM n 0
end Ab
namespace Ab
open Go Go.Proofs.Tryz
set_option maxHeartbeats 100000000
set_option maxRecDepth 100000
variable{I:Pr}(hI:I=an){M:Md}(hM:M= .an){n nx r s p q u rl:Nat}{g:Nat→Option Ob}
 include hI hM
theorem dj{a0:aI}{v:Bool}(h:fo I M n a0=some v):
  bQ 89 [(.agg (aW M r a0))] (vb v) g nx:=have _:=hM;by
 refine cC func89 c89 r aa5 afg [] 11 ntmps89 [.tmp 2] hI fun call hc=>?_
 cbv;cases h;exact fin
 include hI hM
theorem B7{a0:ag}{v:List Bool}(h:yM I M n a0=some v):
  bQ 59 [(.agg (az M r a0))] (.sl r (M.map bL v)) g nx:=by
 refine yc func59 c59 r abr afC [3,4] 36 ntmps59 [.tmp 2] hI (bh.cons (Ub r) (sL PP fQ)) n fun call hc=>?_
 refine aid (fun J JR hJ=>?_);cbv
 refine letE h fun n1 cY h=>⟨_,ak hI hM cY,?_⟩;cbv
 refine ae h fun l2 Jo h=>⟨_,_,dF (enc:=bL) hI hM Jo (by decide) rfl,?_⟩;cbv
 refine⟨_,ak hI hM cY,?_⟩;cbv
 refine lp h (fun(l3,z4)=>[(17,(vi z4))]) (fun(l3,z4)=>[(12,.arr 1 (M.map bL l3))]) fun jJ m1 aQ st h=>?_
 obtain⟨l3,z4⟩:=st
 dsimp only[uF]at h
 cbv
 refine si h (fun h=>?_) fun h=>?_
 ·as_aux_lemma=>
   cbv
   refine ae h fun x5 pI h=>⟨_,al hM pI rfl,?_⟩;cbv
   refine ae h fun y6 wE h=>⟨_,_,_,us hc (dj hI hM wE),?_⟩;cbv
   refine si h (fun h=>?_) fun h=>?_
   ·cbv
    refine letE h fun n7 WV h=>⟨_,ak hI hM WV,?_⟩;cbv
    refine lp h (fun(l8,z9)=>[(26,(vi z9))]) (fun(l8,z9)=>[(12,.arr 1 (M.map bL l8))]) fun AO m2 cS st h=>?_
    obtain⟨l8,z9⟩:=st
    dsimp only[uE]at h
    cbv
    refine si h (fun h=>?_) fun h=>?_
    ·cbv
     refine ae h fun vX xC h=>⟨_,al hM xC rfl,?_⟩;cbv
     refine ae h fun IB L7 h=>?_
     refine aik hI hM hJ _ _ _ _ _ _ _ L7 ⟨fun l=>rfl,?_,trivial⟩ ?_
     ·cbv
      all_goals(repeat' apply And.intro)
      all_goals first|trivial|rfl|exact(aH hM)
     cbv
     exact bN (cS _ _ h)
    cbv
    exact bN (aQ _ _ h)
   cbv
   exact bN (aQ _ _ h)
 cbv
 refine ae h fun u16 LK h=>?_
 obtain rfl:=Option.some.inj h
 cbv
 all_goals(repeat' apply And.intro)
 all_goals first|trivial|rfl|exact(aH hM)|exact dg hM LK
 include hI hM
theorem dx{a0:List Int}{v:Int}(h:gF I M n a0=some v):
  bQ 117 [(.sl r (M.map ao a0))] (vi v) g nx:=by
 refine cC func117 aqL r Wg YM [] 17 ntmps117 [.tmp 2] hI fun call hc=>?_
 cbv
 refine letE h fun n1 cY h=>⟨_,ak hI hM cY,?_⟩;cbv
 refine lp h (fun(z2,z3)=>[(3,(vi z2)),(8,(vi z3))]) (fun _=>[]) fun jJ m1 aQ st h=>?_
 obtain⟨z2,z3⟩:=st
 dsimp only[jf]at h
 cbv
 refine si h (fun h=>?_) fun h=>by cbv;cases h;exact fin
 cbv
 refine ae h fun x4 qh h=>⟨_,al hM qh rfl,?_⟩;cbv
 exact bN (aQ _ _ h)
 include hI hM
theorem vC{a0:aj}{a1:ByteArray}{v:Bool}(h:ma I M n a0 a1=some v):
  bQ 118 [(.agg (aq M r a0)),(.aP r [(vs a1)] 0)] (vb v) g nx:=have _:=hM;by
 refine cC func118 aqK r We YL [] 8 ntmps118 [.tmp 3] hI fun call hc=>?_
 cbv;cases h;exact fin
 include hI hM
theorem oy{a0:List aj}{aV:ByteArray}{v:Int}(h:eU I M n a0 aV=some v):
  bQ 92 [(.sl r (M.map (aq M r) a0)),(.fn (.func 118) [(.aP r [(vs aV)] 0)])] (vi v) g nx:=by
 refine cC func92 c92 r GZ Ie [] 19 ntmps92 [.tmp 4] hI fun call hc=>?_
 cbv
 refine letE h fun n1 cY h=>⟨_,ak hI hM cY,?_⟩;cbv
 refine lp h (fun z2=>[(8,(vi z2))]) (fun z2=>[]) fun jJ m1 aQ z2 h=>?_
 dsimp only[iE]at h
 cbv
 refine si h (fun h=>?_) fun h=>by cbv;cases h;exact fin
 cbv
 refine ae h fun x3 jt h=>⟨_,al hM jt rfl,?_⟩;cbv
 refine ae h fun y4 lC h=>⟨_,_,_,us hc (vC hI hM lC),?_⟩;cbv
 refine si h (fun h=>by cbv;cases h;exact fin) fun h=>?_
 cbv
 exact bN (aQ _ _ h)
 include hI hM
theorem kM{a0:ai}{a1:ByteArray}{v:aj}(h:jC I M n a0 a1=some v):
  bQ 72 [(.agg (aX M r a0)),(vs a1)] (.agg (aq M r v)) g nx:=by
 refine cC func72 c72 r abf afq [] 15 ntmps72 [.cell 4 57] hI fun call hc=>?_
 cbv
 refine ae h fun y1 cR h=>⟨_,_,_,us hc (oy hI hM cR),?_⟩;cbv
 refine ae h fun x2 NC h=>⟨_,al hM NC rfl,?_⟩;cbv
 cbv;cases h;exact fin
 include hI hM
theorem zx{a0:aI}{v:Bool}(h:pJ I M n a0=some v):
  bQ 120 [(.agg (aW M r a0))] (vb v) g nx:=by
 refine cC func120 aqI r Wc YJ [] 6 ntmps120 [.tmp 2] hI fun call hc=>?_
 cbv
 refine ae h fun y1 cR h=>⟨_,_,_,us hc (dj hI hM cR),?_⟩;cbv
 cbv;cases h;exact fin
 include hI hM
theorem su{a0:aI}{v:Bool}(h:fm I M n a0=some v):
  bQ 152 [(.agg (aW M r a0)),(.aP r [(.fn (.func 120) [])] 0)] (vb v) g nx:=by
 refine cC func152 aqk r VH Yg [] 8 ntmps152 [.tmp 3] hI fun call hc=>?_
 cbv
 refine ae h fun y1 cR h=>⟨_,_,_,us hc (zx hI hM cR),?_⟩;cbv
 cbv;cases h;exact fin
 include hI hM
theorem ql{a0:List aI}{v:Int}(h:gw I M n a0=some v):
  bQ 94 [(.sl r (M.map (aW M r) a0)),(.fn (.func 152) [(.aP r [(.fn (.func 120) [])] 0)])] (vi v) g nx:=by
 refine cC func94 c94 r QU Uk [] 19 ntmps94 [.tmp 4] hI fun call hc=>?_
 cbv
 refine letE h fun n1 cY h=>⟨_,ak hI hM cY,?_⟩;cbv
 refine lp h (fun z2=>[(8,(vi z2))]) (fun z2=>[]) fun jJ m1 aQ z2 h=>?_
 dsimp only[kb]at h
 cbv
 refine si h (fun h=>?_) fun h=>by cbv;cases h;exact fin
 cbv
 refine ae h fun x3 jt h=>⟨_,al hM jt rfl,?_⟩;cbv
 refine ae h fun y4 lC h=>⟨_,_,_,us hc (su hI hM lC),?_⟩;cbv
 refine si h (fun h=>by cbv;cases h;exact fin) fun h=>?_
 cbv
 exact bN (aQ _ _ h)
 include hI hM
theorem oD{a0:List aI}{v:Bool}(h:eW I M n a0=some v):
  bQ 37 [(.sl r (M.map (aW M r) a0)),(.fn (.func 152) [(.aP r [(.fn (.func 120) [])] 0)])] (vb v) g nx:=by
 refine cC func37 c37 r QZ Up [] 9 ntmps37 [.tmp 4] hI fun call hc=>?_
 cbv
 refine ae h fun y1 cR h=>⟨_,_,_,us hc (ql hI hM cR),?_⟩;cbv
 cbv;cases h;exact fin
 include hI hM
theorem uf{a0:List aI}{v:Bool}(h:kS I M n a0=some v):
  bQ 119 [(.sl r (M.map (aW M r) a0)),(.fn (.func 120) [])] (vb v) g nx:=by
 refine cC func119 aqJ r Wd YK [] 9 ntmps119 [.tmp 4] hI fun call hc=>?_
 cbv
 refine ae h fun y1 cR h=>⟨_,_,_,us hc (oD hI hM cR),?_⟩;cbv
 cbv;cases h;exact fin
 include hI hM
theorem oF{a0:ag}{v:Bool}(h:lZ I M n a0=some v):
  bQ 74 [(.agg (az M r a0))] (vb v) g nx:=by
 refine cC func74 c74 r abd afo [] 6 ntmps74 [.tmp 2] hI fun call hc=>?_
 cbv
 refine ae h fun y1 cR h=>⟨_,_,_,us hc (uf hI hM cR),?_⟩;cbv
 cbv;cases h;exact fin
 include hI hM
theorem jl{a0:aj}{v:Bool}(h:fk I M n a0=some v):
  bQ 67 [(.agg (aq M r a0))] (vb v) g nx:=by
 refine cC func67 c67 r abj afu [] 22 ntmps67 [.tmp 2] hI fun call hc=>?_
 cbv
 refine letE h fun n1 cY h=>⟨_,ak hI hM cY,?_⟩;cbv
 refine ae h fun x2 NC h=>⟨_,fun hp=>al hM (ax NC hp.1) rfl,?_⟩;cbv
 refine ae h fun x3 jt h=>⟨_,fun hp=>al hM (ax jt hp.1) rfl,?_⟩;cbv
 refine ae h fun y4 lC h=>⟨_,fun hp=>us hc (oF hI hM (ax lC hp.1)),?_⟩;cbv
 cbv;cases h;exact fin
 include hI hM
theorem dV{yj:ByteArray}{yi:Int}{yh:Int}{nu:List Int}{a1:List Int}{v:List Int}(h:fh I M n yj yi yh nu a1=some v):
  bQ 55 [(.aP rl [(vs yj),(vi yi),(.v fC),(vi yh),(.sl r (M.map ao nu)),(.v .nilFunc)] 0),(.sl p (M.map ao a1))] (.sl r (M.map ao v)) g nx:=by
 refine cC func55 c55 r G0 Ig [] 26 ntmps55 [.tmp 4] hI fun call hc=>?_
 cbv
 refine letE h fun n1 cY h=>⟨_,ak hI hM cY,?_⟩;cbv
 refine lp h (fun(z2,l3)=>[(5,(.gs r (.l 23) (M.map ao l3))),(10,(vi z2))]) (fun _=>[]) fun jJ m1 aQ st h=>?_
 obtain⟨z2,l3⟩:=st
 dsimp only[lW]at h
 cbv
 refine si h (fun h=>?_) fun h=>by cbv;cases h;exact fin
 cbv
 refine ae h fun x4 qh h=>⟨_,al hM qh rfl,?_⟩;cbv
 refine ae h fun x5 pI h=>⟨_,al hM pI rfl,?_⟩;cbv
 refine⟨_,bJ (enc:=ao) (x:=x5) hM (ah _) rfl,?_⟩;cbv
 refine ae h fun l6 LV h=>⟨_,aw (enc:=ao) hI hM LV (fun _=>rfl) rfl (fun _=>rfl),?_⟩;cbv
 exact bN (aQ _ _ h)
 include hI hM
 include hI hM
theorem lz{yj:ByteArray}{yi:Int}{Ey:List aI}{yh:Int}{nu:List Int}{yg:ai}{a1:List Int}{v:List Int}(h:jd I M n yj yi Ey yh nu yg a1=some v):
  bQ 55 [(.aP rl [(vs yj),(vi yi),(.sl r (M.map (aW M r) Ey)),(vi yh),(.sl r (M.map ao nu)),(.fn (.func 71) [(.aP q (aX M u yg) 0)])] 0),(.sl p (M.map ao a1))] (.sl r (M.map ao v)) g nx:=by
 refine cC func55 c55 r G0 Ig [] 26 ntmps55 [.tmp 4] hI fun call hc=>?_
 cbv
 refine letE h fun n1 cY h=>⟨_,ak hI hM cY,?_⟩;cbv
 refine lp h (fun(z2,l3)=>[(5,(.gs r (.l 23) (M.map ao l3))),(10,(vi z2))]) (fun _=>[]) fun jJ m1 aQ st h=>?_
 obtain⟨z2,l3⟩:=st
 dsimp only[lV]at h
 cbv
 refine si h (fun h=>?_) fun h=>by cbv;cases h;exact fin
 cbv
 refine ae h fun x4 qh h=>⟨_,al hM qh rfl,?_⟩;cbv
 refine ae h fun x5 pI h=>⟨_,al hM pI rfl,?_⟩;cbv
 refine⟨_,bJ (enc:=ao) (x:=x5) hM (ah _) rfl,?_⟩;cbv
 refine ae h fun l6 LV h=>⟨_,aw (enc:=ao) hI hM LV (fun _=>rfl) rfl (fun _=>rfl),?_⟩;cbv
 exact bN (aQ _ _ h)
 include hI hM
 include hI hM
theorem kG{yj:ByteArray}{yi:Int}{Ey:List aI}{yh:Int}{nu:List Int}{yg:ai}{a1:List Int}{v:List Int}(h:iA I M n yj yi Ey yh nu yg a1=some v):
  bQ 55 [(.aP rl [(vs yj),(vi yi),(.sl r (M.map (aW M r) Ey)),(vi yh),(.sl r (M.map ao nu)),(.fn (.func 73) [(.aP q (aX M u yg) 0)])] 0),(.sl p (M.map ao a1))] (.sl r (M.map ao v)) g nx:=by
 refine cC func55 c55 r G0 Ig [] 26 ntmps55 [.tmp 4] hI fun call hc=>?_
 cbv
 refine letE h fun n1 cY h=>⟨_,ak hI hM cY,?_⟩;cbv
 refine lp h (fun(z2,l3)=>[(5,(.gs r (.l 23) (M.map ao l3))),(10,(vi z2))]) (fun _=>[]) fun jJ m1 aQ st h=>?_
 obtain⟨z2,l3⟩:=st
 dsimp only[lk]at h
 cbv
 refine si h (fun h=>?_) fun h=>by cbv;cases h;exact fin
 cbv
 refine ae h fun x4 qh h=>⟨_,al hM qh rfl,?_⟩;cbv
 refine ae h fun x5 pI h=>⟨_,al hM pI rfl,?_⟩;cbv
 refine⟨_,bJ (enc:=ao) (x:=x5) hM (ah _) rfl,?_⟩;cbv
 refine ae h fun l6 LV h=>⟨_,aw (enc:=ao) hI hM LV (fun _=>rfl) rfl (fun _=>rfl),?_⟩;cbv
 exact bN (aQ _ _ h)
 include hI hM
theorem Ec{a0:ai}{a1:Int}{a2:Int}{v:ag×Int}(h:Bv I M n a0 a1 a2=some v):
  bQ 109 [(.agg (aX M r a0)),(vi a1),(vi a2)] (.gd [(.agg (az M r v.1)),(vi v.2)]) g nx:=by
 refine cC func109 aqP r Wn YT [] 49 ntmps109 [.cell 6 61,.tmp 7] hI fun call hc=>?_
 cbv
 refine ae h fun y1 cR h=>⟨_,_,_,us hc (cP hI hM cR),?_⟩;cbv
 refine si h (fun h=>by cbv;cases h;exact fin) fun h=>?_
 cbv
 refine letE h fun n2 mP h=>⟨_,ak hI hM mP,?_⟩;cbv
 refine ae h fun x3 jt h=>⟨_,fun hp=>al hM (ax jt hp.1) rfl,?_⟩;cbv
 refine letE h fun n4 LP h=>⟨_,ak hI hM LP,?_⟩;cbv
 refine si h (fun h=>by cbv;cases h;exact fin) fun h=>?_
 cbv
 refine ae h fun x5 pI h=>⟨_,al hM pI rfl,?_⟩;cbv
 refine ae h fun x6 v8 h=>⟨_,al hM v8 rfl,?_⟩;cbv
 cbv;cases h;exact fin
 include hI hM
theorem Ia{a0:ai}{a1:Int}{a2:Int}{v:(List Bool)×Int}(h:Gi I M n a0 a1 a2=some v):
  bQ 52 [(.agg (aX M r a0)),(vi a1),(vi a2)] (.gd [(.sl r (M.map bL v.1)),(vi v.2)]) g nx:=by
 refine yc func52 c52 r aby afI [] 71 ntmps52 [.tmp 6,.tmp 7] hI (bh.cons (T8 r) (bh.cons (Uc r) (sL PP fQ))) 8 fun call hc=>?_
 cbv
 refine ae h fun y1 cR h=>⟨_,_,_,us hc (Ec hI hM cR),?_⟩;cbv
 refine si h (fun h=>by cbv;cases h;exact fin) fun h=>?_
 cbv
 refine letE h fun n2 mP h=>⟨_,ak hI hM mP,?_⟩;cbv
 refine ae h fun l3 ND h=>⟨_,_,dF (enc:=bL) hI hM ND (by decide) rfl,?_⟩;cbv
 refine ae h fun k4 qk4 h=>⟨_,bV hI hM qk4,?_⟩;cbv
 refine ae h fun x5 pI h=>?_
 refine ae h fun l6 LV h=>⟨_,cN hI hM pI LV (by decide) rfl rfl,?_⟩;cbv
 intro l
 cbv
 refine⟨_,ak hI hM mP,?_⟩;cbv
 refine lp h (fun(l7,z8)=>[(3,(vi z8))]) (fun(l7,z8)=>[(28,.arr 1 (M.map bL l7))]) fun jJ m1 aQ st h=>?_
 obtain⟨l7,z8⟩:=st
 dsimp only[By]at h
 cbv
 refine si h (fun h=>?_) fun h=>?_
 ·as_aux_lemma=>
   cbv
   refine ae h fun x9 WT h=>⟨_,al hM WT rfl,?_⟩;cbv
   try(refine⟨⟨rfl,rfl,rfl⟩,?_⟩;cbv)
   try(refine⟨rfl,?_⟩;cbv)
   refine ae h fun ZU SG h=>?_
   refine ae h fun Fw wG h=>?_
   refine ae h fun iJ adG h=>?_
   apply Exists.intro;refine⟨?_,_,rfl,?_⟩
   ·cbv
    refine⟨_,bV hI hM SG,?_⟩;cbv
    refine⟨_,_,rfl,ba hM wG,rfl,?_⟩;cbv
    refine⟨_,bV hI hM SG,?_⟩;cbv
    refine⟨?_,trivial⟩
    refine⟨_,cN hI hM wG adG (by decide) rfl rfl,?_⟩;cbv
    all_goals exact .inl rfl
   cbv
   refine⟨_,bV hI hM SG,?_⟩;cbv
   refine ae h fun CL yJ h=>⟨_,_,rfl,ba hM yJ,rfl,?_⟩;cbv
   refine si h (fun h=>?_) fun h=>?_
   ·cbv
    refine letE h fun JI LU h=>⟨_,ak hI hM LU,?_⟩;cbv
    refine lp h (fun(wH,jV)=>[(62,(vi jV))]) (fun(wH,jV)=>[(28,.arr 1 (M.map bL wH))]) fun AO m2 cS st h=>?_
    obtain⟨wH,jV⟩:=st
    dsimp only[Bw]at h
    cbv
    refine si h (fun h=>?_) fun h=>?_
    ·cbv
     refine ae h fun qf Af h=>⟨_,al hM Af rfl,?_⟩;cbv
     refine ae h fun Tq BP h=>⟨_,bV hI hM BP,?_⟩;cbv
     refine ae h fun Fv wF h=>?_
     refine ae h fun Tj L5 h=>⟨_,cN hI hM wF L5 (by decide) rfl rfl,?_⟩;cbv
     exact bN (cS _ _ h)
    cbv
    try(refine⟨rfl,?_⟩;cbv)
    refine lK hI ?_;cbv
    exact bN (aQ _ _ h)
   cbv
   try(refine⟨rfl,?_⟩;cbv)
   refine lK hI ?_;cbv
   exact bN (aQ _ _ h)
 cbv
 try(refine⟨rfl,?_⟩;cbv)
 refine ae h fun u25 EV h=>?_
 obtain rfl:=Option.some.inj h
 cbv
 all_goals(repeat' apply And.intro)
 all_goals first|trivial|rfl|exact(aH hM)|exact dg hM EV
 include hI hM
theorem mu{a0:ai}{a1:ByteArray}{v:Int×Int}(h:sC I M n a0 a1=some v):
  bQ 90 [(.agg (aX M r a0)),(vs a1)] (.gd [(vi v.1),(vi v.2)]) g nx:=by
 refine yc func90 c90 r aa4 aff [] 20 ntmps90 [.tmp 4,.tmp 5] hI (bh.cons (D8 r) (sL PP fQ)) 8 fun call hc=>?_
 cbv
 refine ae h fun y1 cR h=>⟨_,_,_,us hc (cP hI hM cR),?_⟩;cbv
 refine si h (fun h=>by cbv;cases h;exact fin) fun h=>?_
 cbv
 refine ae h fun y2 qX h=>⟨_,_,_,us hc (bT hI hM qX),?_⟩;cbv
 exact si h (fun h=>by cbv;cases h;exact fin) fun h=>by cbv;cases h;exact fin
 include hI hM
theorem tl{a0:aI}{a1:aI}{a2:ai}{a3:List Int}{v:Bool}(h:oI I M n a0 a1 a2 a3=some v):
  bQ 153 [(.agg (aW M r a0)),(.agg (aW M r a1)),(.aP r (aX M r a2) 0),(.mN rl 1 (M.map ao a3))] (vb v) g nx:=by
 refine cC func153 aqj r VG Yf [] 60 ntmps153 [.tmp 6] hI fun call hc=>?_
 cbv
 refine ae h fun y1 cR h=>⟨_,fun hp=>us hc (dt hI hM (ax cR hp.1)),?_⟩;cbv
 refine si h (fun h=>by cbv;cases h;exact fin) fun h=>?_
 cbv
 refine ae h fun y2 qX h=>⟨_,_,_,us hc (dj hI hM qX),?_⟩;cbv
 refine si h (fun h=>by cbv;cases h;exact fin) fun h=>?_
 cbv
 refine ae h fun y3 Hl h=>⟨_,_,_,us hc (mu hI hM Hl),?_⟩;cbv
 refine ae h fun y4 lC h=>⟨_,_,_,us hc (mu hI hM lC),?_⟩;cbv
 refine ae h fun u5 qu5 h=>?_
 refine ae h fun x6 v8 h=>?_
 refine ae h fun x7 Bb h=>?_
 apply Exists.intro;refine⟨?_,_,rfl,?_⟩
 ·cbv
  refine⟨_,⟨aR hI hM qu5,rfl,Iu (enc:=ao) hM v8⟩,?_⟩;cbv
  refine⟨_,⟨aR hI hM qu5,rfl,Iu (enc:=ao) hM Bb⟩,?_⟩;cbv
  all_goals exact .inl rfl
 cbv;cases h;exact fin
 include hI hM
theorem qn{a0:List aI}{a1:List aI}{AN:ai}{AM:List Int}{v:Bool}(h:lM I M n a0 a1 AN AM=some v):
  bQ 98 [(.sl r (M.map (aW M r) a0)),(.sl r (M.map (aW M r) a1)),(.fn (.func 153) [(.aP r (aX M r AN) 0),(.mN rl 1 (M.map ao AM))])] (vb v) g nx:=by
 refine cC func98 c98 r QT Uj [] 32 ntmps98 [.tmp 6] hI fun call hc=>?_
 cbv
 refine letE h fun n1 cY h=>⟨_,ak hI hM cY,?_⟩;cbv
 refine letE h fun n2 mP h=>⟨_,ak hI hM mP,?_⟩;cbv
 refine si h (fun h=>by cbv;cases h;exact fin) fun h=>?_
 cbv
 refine⟨_,ak hI hM cY,?_⟩;cbv
 refine lp h (fun z3=>[(17,(vi z3))]) (fun z3=>[]) fun jJ m1 aQ z3 h=>?_
 dsimp only[kf]at h
 cbv
 refine si h (fun h=>?_) fun h=>by cbv;cases h;exact fin
 cbv
 refine ae h fun x4 qh h=>⟨_,al hM qh rfl,?_⟩;cbv
 refine ae h fun x5 pI h=>⟨_,al hM pI rfl,?_⟩;cbv
 refine ae h fun y6 wE h=>⟨_,_,_,us hc (tl hI hM wE),?_⟩;cbv
 refine si h (fun h=>by cbv;cases h;exact fin) fun h=>?_
 cbv
 exact bN (aQ _ _ h)
 include hI hM
theorem zw{a0:ai}{a1:List Int}{a2:ag}{a3:ag}{v:Bool}(h:uG I M n a0 a1 a2 a3=some v):
  bQ 127 [(.agg (aX M r a0)),(.ar 12 1 (M.map ao a1)),(.agg (az M r a2)),(.agg (az M r a3))] (vb v) g nx:=by
 refine cC func127 aqE r V5 YD [5] 36 ntmps127 [.tmp 8] hI fun call hc=>?_
 cbv
 try(refine⟨⟨by decide,by decide⟩,?_⟩;cbv)
 refine ae h fun y1 cR h=>⟨fun _=>rfl,(vb y1),fun hp=>fun ρ=>by cbv;exact us hc (qn hI hM (ax cR hp.1)),?_⟩;cbv
 cbv;cases h;exact fin
 include hI hM
theorem rz{a0:ag}{a1:ag}{a2:ai}{a3:List Int}{v:Bool}(h:mQ I M n a0 a1 a2 a3=some v):
  bQ 126 [(.agg (az M r a0)),(.agg (az M r a1)),(.aP rl (aX M r a2) 0),(.mN rl 1 (M.map ao a3))] (vb v) g nx:=by
 refine cC func126 aqF r V6 YE [] 12 ntmps126 [.tmp 6] hI fun call hc=>?_
 cbv
 refine ae h fun u1 qu1 h=>?_
 (first|refine⟨⟨aR hI hM qu1,rfl⟩,?_⟩|refine⟨⟨aR hI hM qu1,trivial⟩,?_⟩|refine⟨aR hI hM qu1,?_⟩)
 cbv
 refine ae h fun y2 qX h=>⟨_,_,_,us hc (zw hI hM qX),?_⟩;cbv
 cbv;cases h;exact fin
 include hI hM
theorem nZ{a0:List ag}{a1:List ag}{AN:ai}{AM:List Int}{v:Bool}(h:iV I M n a0 a1 AN AM=some v):
  bQ 101 [(.sl r (M.map (az M r) a0)),(.sl r (M.map (az M r) a1)),(.fn (.func 126) [(.aP rl (aX M r AN) 0),(.mN rl 1 (M.map ao AM))])] (vb v) g nx:=by
 refine cC func101 akC r Ns Ol [] 32 ntmps101 [.tmp 6] hI fun call hc=>?_
 cbv
 refine letE h fun n1 cY h=>⟨_,ak hI hM cY,?_⟩;cbv
 refine letE h fun n2 mP h=>⟨_,ak hI hM mP,?_⟩;cbv
 refine si h (fun h=>by cbv;cases h;exact fin) fun h=>?_
 cbv
 refine⟨_,ak hI hM cY,?_⟩;cbv
 refine lp h (fun z3=>[(17,(vi z3))]) (fun z3=>[]) fun jJ m1 aQ z3 h=>?_
 dsimp only[ia]at h
 cbv
 refine si h (fun h=>?_) fun h=>by cbv;cases h;exact fin
 cbv
 refine ae h fun x4 qh h=>⟨_,al hM qh rfl,?_⟩;cbv
 refine ae h fun x5 pI h=>⟨_,al hM pI rfl,?_⟩;cbv
 refine ae h fun y6 wE h=>⟨_,_,_,us hc (rz hI hM wE),?_⟩;cbv
 refine si h (fun h=>by cbv;cases h;exact fin) fun h=>?_
 cbv
 exact bN (aQ _ _ h)
 include hI hM
theorem tB{a0:aj}{a1:ai}{a2:List Int}{a3:Int}{a4:aj}{v:Bool}(h:oO I M n a0 a1 a2 a3 a4=some v):
  bQ 125 [(.agg (aq M r a0)),(.aP rl (aX M r a1) 0),(.mN rl 1 (M.map ao a2)),(.aP r [(vi a3)] 0),(.aP r (aq M r a4) 0)] (vb v) g nx:=by
 refine cC func125 aqG r V7 YF [] 38 ntmps125 [.tmp 6] hI fun call hc=>?_
 cbv
 refine ae h fun y1 cR h=>⟨_,_,_,us hc (mu hI hM cR),?_⟩;cbv
 refine ae h fun u2 qu2 h=>?_
 refine ae h fun x3 jt h=>?_
 refine ae h fun x4 qh h=>?_
 refine ae h fun y5 Dh h=>?_
 apply Exists.intro;refine⟨?_,_,rfl,?_⟩
 ·cbv
  refine⟨_,⟨aR hI hM qu2,rfl,Iu (enc:=ao) hM jt⟩,?_⟩;cbv
  refine⟨_,⟨aR hI hM qu2,rfl,Iu (enc:=ao) hM qh⟩,?_⟩;cbv
  refine⟨?_,trivial⟩
  refine⟨?_,trivial⟩
  refine⟨_,fun hp=>us hc (nZ hI hM (ax Dh hp.1)),?_⟩;cbv
  all_goals exact .inl rfl
 cbv;cases h;exact fin
 include hI hM
theorem cd{a0:List aj}{aV:ai}{ug:List Int}{P2:Int}{P1:aj}{v:Int}(h:jO I M n a0 aV ug P2 P1=some v):
  bQ 92 [(.sl r (M.map (aq M r) a0)),(.fn (.func 125) [(.aP rl (aX M r aV) 0),(.mN rl 1 (M.map ao ug)),(.aP r [(vi P2)] 0),(.aP r (aq M r P1) 0)])] (vi v) g nx:=by
 refine cC func92 c92 r GZ Ie [] 19 ntmps92 [.tmp 4] hI fun call hc=>?_
 cbv
 refine letE h fun n1 cY h=>⟨_,ak hI hM cY,?_⟩;cbv
 refine lp h (fun z2=>[(8,(vi z2))]) (fun z2=>[]) fun jJ m1 aQ z2 h=>?_
 dsimp only[iD]at h
 cbv
 refine si h (fun h=>?_) fun h=>by cbv;cases h;exact fin
 cbv
 refine ae h fun x3 jt h=>⟨_,al hM jt rfl,?_⟩;cbv
 refine ae h fun y4 lC h=>⟨_,_,_,us hc (tB hI hM lC),?_⟩;cbv
 refine si h (fun h=>by cbv;cases h;exact fin) fun h=>?_
 cbv
 exact bN (aQ _ _ h)
 include hI hM
theorem qM{a0:ai}{v:List Int}(h:pK I M n a0=some v):
  bQ 85 [(.agg (aX M r a0))] (.ar 12 1 (M.map ao v)) g nx:=by
 refine cC func85 c85 r aa9 afk [1,3] 30 ntmps85 [.cell 2 110] hI fun call hc=>?_
 cbv
 refine letE h fun l1 L8 h=>⟨_,⟨rfl,iz (enc:=ao) hI hM L8 rfl⟩,?_⟩;cbv
 refine letE h fun l2 Jo h=>⟨_,⟨rfl,iz (enc:=ao) hI hM Jo rfl⟩,?_⟩;cbv
 refine lp h (fun l3=>[]) (fun l3=>[(3,.arr 1 (M.map ao l3))]) fun jJ m1 aQ l3 h=>?_
 dsimp only[r5]at h
 cbv
 refine letE h fun l4 KN h=>⟨_,⟨rfl,iz (enc:=ao) hI hM KN rfl⟩,?_⟩;cbv
 refine letE h fun n5 WW h=>⟨_,ak hI hM WW,?_⟩;cbv
 refine lp h (fun(l6,z7)=>[(10,(vi z7))]) (fun(l6,z7)=>[(4,.arr 1 (M.map ao l6))]) fun AO m2 cS st h=>?_
 obtain⟨l6,z7⟩:=st
 dsimp only[r4]at h
 cbv
 refine si h (fun h=>?_) fun h=>?_
 ·as_aux_lemma=>
   cbv
   refine ae h fun x8 Rr h=>⟨_,al hM Rr rfl,?_⟩;cbv
   refine ae h fun l9 WY h=>?_
   refine ae h fun qT nc h=>?_
   refine ae h fun k11 BQ h=>?_
   refine ae h fun tK mG h=>?_
   refine ae h fun wI L6 h=>?_
   apply Exists.intro;refine⟨?_,_,rfl,?_⟩
   ·cbv
    refine⟨?_,?_⟩
    ·refine⟨?_,?_⟩
     ·refine⟨_,vN hI hM WY (fun _=>rfl),?_⟩;cbv
      refine⟨?_,trivial⟩
      refine⟨?_,trivial⟩
      refine⟨fun _=>rfl,(vi qT),g,nx,fun ρ=>by cbv;exact us hc (cd hI hM nc),?_⟩;cbv
      (first|refine⟨_,⟨rfl,rfl,aK hI BQ⟩,?_⟩|refine⟨_,aK hI BQ,?_⟩)
      cbv
      refine⟨?_,trivial⟩
      refine⟨_,cN hI hM mG L6 (by decide) rfl rfl,?_⟩;cbv
      all_goals exact .inl rfl
     refine⟨?_,trivial⟩
     refine⟨?_,trivial⟩
     refine⟨_,vN hI hM WY (fun _=>rfl),?_⟩;cbv
     refine⟨?_,trivial⟩
     refine⟨fun _=>rfl,(vi qT),g,nx,fun ρ=>by cbv;exact us hc (cd hI hM nc),?_⟩;cbv
     (first|refine⟨_,⟨rfl,rfl,aK hI BQ⟩,?_⟩|refine⟨_,aK hI BQ,?_⟩)
     cbv
     refine⟨?_,trivial⟩
     refine⟨_,cN hI hM mG L6 (by decide) rfl rfl,?_⟩;cbv
     all_goals exact .inl rfl
    refine⟨?_,?_⟩
    ·refine⟨_,vN hI hM WY (fun _=>rfl),?_⟩;cbv
     refine⟨?_,trivial⟩
     refine⟨?_,trivial⟩
     refine⟨fun _=>rfl,(vi qT),g,nx,fun ρ=>by cbv;exact us hc (cd hI hM nc),?_⟩;cbv
     (first|refine⟨_,⟨rfl,rfl,aK hI BQ⟩,?_⟩|refine⟨_,aK hI BQ,?_⟩)
     cbv
     refine⟨?_,trivial⟩
     refine⟨_,cN hI hM mG L6 (by decide) rfl rfl,?_⟩;cbv
     all_goals exact .inl rfl
    refine⟨?_,trivial⟩
    refine⟨?_,?_⟩
    ·refine⟨?_,trivial⟩
     refine⟨_,vN hI hM WY (fun _=>rfl),?_⟩;cbv
     refine⟨?_,trivial⟩
     refine⟨fun _=>rfl,(vi qT),g,nx,fun ρ=>by cbv;exact us hc (cd hI hM nc),?_⟩;cbv
     (first|refine⟨_,⟨rfl,rfl,aK hI BQ⟩,?_⟩|refine⟨_,aK hI BQ,?_⟩)
     cbv
     refine⟨?_,trivial⟩
     refine⟨_,cN hI hM mG L6 (by decide) rfl rfl,?_⟩;cbv
     all_goals exact .inl rfl
    refine⟨?_,trivial⟩
    refine⟨_,vN hI hM WY (fun _=>rfl),?_⟩;cbv
    refine⟨?_,trivial⟩
    refine⟨fun _=>rfl,(vi qT),g,nx,fun ρ=>by cbv;exact us hc (cd hI hM nc),?_⟩;cbv
    (first|refine⟨_,⟨rfl,rfl,aK hI BQ⟩,?_⟩|refine⟨_,aK hI BQ,?_⟩)
    cbv
    refine⟨?_,trivial⟩
    refine⟨_,cN hI hM mG L6 (by decide) rfl rfl,?_⟩;cbv
    all_goals exact .inl rfl
   cbv
   exact bN (cS _ _ h)
 cbv
 refine ae h fun u16 LK h=>?_
 (first|refine⟨⟨rfl,aR hI hM LK,rfl⟩,?_⟩|refine⟨⟨aR hI hM LK,trivial⟩,?_⟩|refine⟨aR hI hM LK,?_⟩)
 cbv
 refine ae h fun u17 acT h=>?_
 (first|refine⟨⟨rfl,aR hI hM acT,rfl⟩,?_⟩|refine⟨⟨aR hI hM acT,trivial⟩,?_⟩|refine⟨aR hI hM acT,?_⟩)
 cbv
 refine ae h fun u18 amZ h=>?_
 refine ae h fun u19 WU h=>?_
 refine letE h fun b20 anD h=>⟨_,Ue hM amZ WU anD rfl,?_⟩;cbv
 refine si h (fun h=>?_) fun h=>?_
 ·cbv
  refine ae h fun u21 LJ h=>?_
  (first|refine⟨⟨rfl,aR hI hM LJ,rfl⟩,?_⟩|refine⟨⟨aR hI hM LJ,trivial⟩,?_⟩|refine⟨aR hI hM LJ,?_⟩)
  cbv
  refine ae h fun Vv yK h=>?_
  (first|refine⟨⟨rfl,rfl,rfl,aR hI hM yK,rfl,(by have hq:=dI (enc:=ao) hM (fun _=>rfl) l3;rw[eb.eq_def]at hq;exact hq)⟩,?_⟩|refine⟨⟨aR hI hM yK,(by have hq:=dI (enc:=ao) hM (fun _=>rfl) l3;rw[eb.eq_def]at hq;exact hq)⟩,?_⟩)
  cbv
  refine ae h fun OL qi h=>?_
  obtain rfl:=Option.some.inj h
  cbv
  all_goals(repeat' apply And.intro)
  all_goals first|trivial|rfl|exact(aH hM)|exact aR hI hM qi
 cbv
 refine ae h fun u24 xD h=>?_
 (first|refine⟨⟨rfl,aR hI hM xD,rfl⟩,?_⟩|refine⟨⟨aR hI hM xD,trivial⟩,?_⟩|refine⟨aR hI hM xD,?_⟩)
 cbv
 refine ae h fun u25 EV h=>?_
 (first|refine⟨⟨rfl,rfl,rfl,aR hI hM EV,rfl,(by have hq:=dI (enc:=ao) hM (fun _=>rfl) l6;rw[eb.eq_def]at hq;exact hq)⟩,?_⟩|refine⟨⟨aR hI hM EV,(by have hq:=dI (enc:=ao) hM (fun _=>rfl) l6;rw[eb.eq_def]at hq;exact hq)⟩,?_⟩)
 cbv
 exact bN (aQ _ _ h)
end Ab
namespace Ab
open Go
set_option maxHeartbeats 4000000
set_option maxRecDepth 100000
theorem JF{α:Type}{I:Pr}(hI:I=an){M:Md}(hM:M= .an){enc:α→List AV}{l:List α}(h:I.fp (M.map enc l)=0):l=[]:=by
 subst hI;subst hM
 have h:(l.map enc).length=0:=h
 cases l with
 |nil=>rfl
 |cons x r=>simp at h
theorem Zg{α:Type}{b:Nat}{l:List α}(h:It b ([]:List α) []=some l):l=[]:=by
 unfold It at h
 simp at h
 exact h
theorem vK{I:Pr}(hI:I=an){M:Md}(hM:M= .an){n:Nat}{a0:List Int}{v:List Int}(h:mY I M n a0=some v)(g:Nat→Option Ob)(nx:Nat){s:Nat}(r:Nat):
  j5 PP 86 [(.sl s (M.map ao a0))] g nx (.sl r (M.map ao v)) g nx:=by
 obtain⟨wrap,add,sub,mul,aN,aU,rG,seq,cat,beq,not,pick,PB,imax,fp,MW,app,Ei,Ik,flat,chunk,rep,set,room,within,nat,DK,mS,nr⟩:=I
 obtain⟨map,ln⟩:=M
 refine AI lay mixed Go.Proofs.Tryz.func86 (c:=c86) (by kernel_rfl) rfl r [] aa8 afj [] fQ (sL PP fQ) (cl0 fQ) 0 (by kernel_rfl) 8 Go.Proofs.Tryz.ntmps86 rfl (rs:=[.tmp 2]) (by kernel_rfl) hI fun call hc=>?_
 cbv
 intro b hb
 cbv
 refine⟨fun yn=>?_,fun Gc=>?_⟩
 ·have h0:=JF hI hM (hb yn)
  subst h0
  cbv
  refine ae h fun l1 L8 h=>?_
  have h1:l1=[]:=by
   have:=Zg L8
   exact this
  subst h1
  obtain rfl:=Option.some.inj h
  cbv
  all_goals(repeat' apply And.intro)
  all_goals first|trivial|rfl|exact(aH hM)
 ·cbv
  refine⟨_,bl0 (enc:=ao) hM,?_⟩
  cbv
  refine ae h fun l1 L8 h=>?_
  refine⟨_,M3 (enc:=ao) hI hM L8 (fun _=>rfl) rfl (fun _=>rfl),?_⟩
  cbv
  obtain rfl:=Option.some.inj h
  cbv
  all_goals(repeat' apply And.intro)
  all_goals first|trivial|rfl|exact(aH hM)
theorem wL{I:Pr}(hI:I=an){M:Md}(hM:M= .an){n nx r s:Nat}{g:Nat→Option Ob}{a0:List Int}{v:List Int}(h:mY I M n a0=some v):bQ 86 [(.sl s (M.map ao a0))] (.sl r (M.map ao v)) g nx:=⟨enters Go.Proofs.Tryz.func86 (c:=c86) (by kernel_rfl) (by kernel_rfl),vK hI hM h g nx r⟩
end Ab
namespace Ab
open Go Go.Proofs.Tryz
set_option maxHeartbeats 100000000
set_option maxRecDepth 100000
variable{I:Pr}(hI:I=an){M:Md}(hM:M= .an){n nx r s p q u rl:Nat}{g:Nat→Option Ob}
 include hI hM
theorem zA{a0:ai}{v:(List Int)×Int}(h:uS I M n a0=some v):
  bQ 29 [(.agg (aX M r a0))] (.gd [(.sl r (M.map ao v.1)),(vi v.2)]) g nx:=by
 refine cC func29 c29 r abN afX [] 18 ntmps29 [.tmp 2,.tmp 3] hI fun call hc=>?_
 cbv
 refine ae h fun y1 cR h=>⟨_,_,_,us hc (cP hI hM cR),?_⟩;cbv
 refine si h (fun h=>by cbv;cases h;exact fin) fun h=>?_
 cbv
 refine ae h fun y2 qX h=>⟨_,_,_,us hc (qM hI hM qX),?_⟩;cbv
 refine letE h fun l3 ND h=>⟨_,⟨rfl,iz (enc:=ao) hI hM ND rfl⟩,?_⟩;cbv
 refine ae h fun u4 qu4 h=>?_
 (first|refine⟨⟨rfl,rfl,rfl,aR hI hM qu4,rfl,(by have hq:=dI (enc:=ao) hM (fun _=>rfl) y2;rw[eb.eq_def]at hq;exact hq)⟩,?_⟩|refine⟨⟨aR hI hM qu4,(by have hq:=dI (enc:=ao) hM (fun _=>rfl) y2;rw[eb.eq_def]at hq;exact hq)⟩,?_⟩)
 cbv
 refine letE h fun n5 WW h=>⟨_,ak hI hM WW,?_⟩;cbv
 refine ae h fun j6 qj6 h=>⟨_,agl (enc:=ao) hI hM qj6 (by decide),?_⟩;cbv
 refine ae h fun y7 Hj h=>⟨fun _=>rfl,(.sl r (M.map ao y7)),g,nx,fun ρ=>by cbv;refine us hc ((wL (s:=ρ) hI hM Hj (r:=r)).wk ?_);exact⟨(amn hM y2 j6),trivial⟩,?_⟩;cbv
 cbv;cases h;exact fin
 include hI hM
theorem nD{a0:ai}{a1:ByteArray}{v:Int}(h:m0 I M n a0 a1=some v):
  bQ 64 [(.agg (aX M r a0)),(vs a1)] (vi v) g nx:=by
 refine cC func64 c64 r abm afx [] 22 ntmps64 [.tmp 4] hI fun call hc=>?_
 cbv
 refine lp h (fun z1=>[(5,(vi z1))]) (fun z1=>[]) fun jJ m1 aQ z1 h=>?_
 dsimp only[yI]at h
 cbv
 refine letE h fun n2 mP h=>⟨_,ak hI hM mP,?_⟩;cbv
 refine si h (fun h=>?_) fun h=>by cbv;cases h;exact fin
 cbv
 refine ae h fun x3 jt h=>⟨_,al hM jt rfl,?_⟩;cbv
 refine si h (fun h=>by cbv;cases h;exact fin) fun h=>?_
 cbv
 exact bN (aQ _ _ h)
 include hI hM
theorem H7{a0:Int}{a1:Int}{a2:Int}{v:Bool}(h:Ad I M n a0 a1 a2=some v):
  bQ 151 [(vi a0),(vi a1),(vi a2)] (vb v) g nx:=have _:=hM;by
 obtain⟨r,_⟩: ∃x:Nat,x=0:=⟨_,rfl⟩
 refine cC func151 aql r VI Yh [] 15 ntmps151 [.tmp 6] hI fun call hc=>?_
 cbv;cases h;exact fin
 include hI hM
theorem p5{a0:ByteArray}{v:Bool}(h:lh I M n a0=some v):
  bQ 112 [(vs a0)] (vb v) g nx:=by
 obtain⟨r,_⟩: ∃x:Nat,x=0:=⟨_,rfl⟩
 refine cC func112 aqO r Wl YR [] 23 ntmps112 [.tmp 2] hI fun call hc=>?_
 cbv
 refine letE h fun n1 cY h=>⟨_,gA hI cY,?_⟩;cbv
 refine ae h fun y2 qX h=>⟨_,_,_,us hc (H7 hI hM qX),?_⟩;cbv
 refine si h (fun h=>by cbv;cases h;exact fin) fun h=>?_
 cbv
 refine lp h (fun z3=>[(3,(vi z3))]) (fun z3=>[]) fun jJ m1 aQ z3 h=>?_
 dsimp only[nB]at h
 cbv
 refine letE h fun n4 LP h=>⟨_,gA hI LP,?_⟩;cbv
 refine si h (fun h=>?_) fun h=>by cbv;cases h;exact fin
 cbv
 refine ae h fun x5 pI h=>⟨_,mF pI,?_⟩;cbv
 refine ae h fun x6 v8 h=>⟨_,fun hp=>mF (ax v8 hp.1),?_⟩;cbv
 refine si h (fun h=>by cbv;cases h;exact fin) fun h=>?_
 cbv
 exact bN (aQ _ _ h)
 include hI hM
theorem dJ{a0:Int}{a1:Int}{a2:Int}{v:Bool}(h:ew I M n a0 a1 a2=some v):
  bQ 62 [(vi a0),(vi a1),(vi a2)] (vb v) g nx:=have _:=hM;by
 obtain⟨r,_⟩: ∃x:Nat,x=0:=⟨_,rfl⟩
 refine cC func62 c62 r abo afz [] 15 ntmps62 [.tmp 6] hI fun call hc=>?_
 cbv;cases h;exact fin
 include hI hM
theorem wN{a0:aj}{v:Int}(h:jy I M n a0=some v):
  bQ 63 [(.agg (aq M r a0))] (vi v) g nx:=by
 refine cC func63 c63 r abn afy [] 150 ntmps63 [.tmp 2] hI fun call hc=>?_
 cbv
 refine letE h fun n1 cY h=>⟨_,ak hI hM cY,?_⟩;cbv
 refine ae h fun y2 qX h=>⟨_,_,_,us hc (dJ hI hM qX),?_⟩;cbv
 refine si h (fun h=>by cbv;cases h;exact fin) fun h=>?_
 cbv
 refine lp h (fun z3=>[(3,(vi z3))]) (fun z3=>[]) fun jJ m1 aQ z3 h=>?_
 dsimp only[eJ]at h
 cbv
 refine letE h fun n4 LP h=>⟨_,ak hI hM LP,?_⟩;cbv
 refine si h (fun h=>?_) fun h=>?_
 ·cbv
  refine ae h fun x5 pI h=>⟨_,al hM pI rfl,?_⟩;cbv
  refine letE h fun n6 Jk h=>⟨_,ak hI hM Jk,?_⟩;cbv
  refine ae h fun y7 Hj h=>⟨_,_,_,us hc (dJ hI hM Hj),?_⟩;cbv
  refine si h (fun h=>by cbv;cases h;exact fin) fun h=>?_
  cbv
  exact bN (aQ _ _ h)
 cbv
 refine ae h fun y9 Hi h=>⟨_,_,_,us hc (dJ hI hM Hi),?_⟩;cbv
 refine si h (fun h=>by cbv;cases h;exact fin) fun h=>?_
 cbv
 refine lp h (fun yp=>[(4,(vi yp))]) (fun yp=>[]) fun AO m2 cS yp h=>?_
 dsimp only[eI]at h
 cbv
 refine letE h fun ub xE h=>⟨_,ak hI hM xE,?_⟩;cbv
 refine si h (fun h=>?_) fun h=>?_
 ·cbv
  refine ae h fun tK mG h=>⟨_,al hM mG rfl,?_⟩;cbv
  refine ae h fun ov pH h=>⟨_,_,_,us hc (dJ hI hM pH),?_⟩;cbv
  refine si h (fun h=>by cbv;cases h;exact fin) fun h=>?_
  cbv
  exact bN (cS _ _ h)
 cbv
 refine ae h fun Ft Dj h=>⟨_,_,_,us hc (p5 hI hM Dj),?_⟩;cbv
 refine si h (fun h=>by cbv;cases h;exact fin) fun h=>?_
 cbv
 refine lp h (fun jV=>[(5,(vi jV))]) (fun jV=>[]) fun M6 m3 jE jV h=>?_
 dsimp only[eH]at h
 cbv
 refine letE h fun S3 LR h=>⟨_,ak hI hM LR,?_⟩;cbv
 refine si h (fun h=>?_) fun h=>?_
 ·cbv
  refine ae h fun wC LI h=>⟨_,al hM LI rfl,?_⟩;cbv
  refine ae h fun Fv wF h=>⟨_,fun hp=>al hM (ax wF hp.1) rfl,?_⟩;cbv
  refine ae h fun Qa LA h=>⟨_,fun hp=>us hc (p5 hI hM (ax LA hp.1)),?_⟩;cbv
  refine si h (fun h=>by cbv;cases h;exact fin) fun h=>?_
  cbv
  exact bN (jE _ _ h)
 cbv
 refine lp h (fun BJ=>[(6,(vi BJ))]) (fun BJ=>[]) fun Qt m4 pW BJ h=>?_
 dsimp only[eG]at h
 cbv
 refine letE h fun Xb O8 h=>⟨_,ak hI hM O8,?_⟩;cbv
 refine si h (fun h=>?_) fun h=>?_
 ·cbv
  refine ae h fun IW acF h=>⟨_,al hM acF rfl,?_⟩;cbv
  refine⟨_,ak hI hM O8,?_⟩;cbv
  refine si h (fun h=>by cbv;cases h;exact fin) fun h=>?_
  cbv
  exact bN (pW _ _ h)
 cbv
 refine lp h (fun CD=>[(8,(vi CD))]) (fun CD=>[]) fun Qs m5 ox CD h=>?_
 dsimp only[dB]at h
 cbv
 refine letE h fun n27 am6 h=>⟨_,ak hI hM am6,?_⟩;cbv
 refine si h (fun h=>?_) fun h=>by cbv;cases h;exact fin
 cbv
 refine lp h (fun Iy=>[(9,(vi Iy))]) (fun Iy=>[]) fun Vi m6 rp Iy h=>?_
 as_aux_lemma=>
  dsimp only[eF]at h
  cbv
  refine si h (fun h=>?_) fun h=>?_
  ·cbv
   refine ae h fun qc LG h=>?_
   refine ae h fun fw Ry h=>?_
   refine ae h fun x31 amN h=>?_
   refine ae h fun Vr Rx h=>?_
   apply Exists.intro;refine⟨?_,_,rfl,?_⟩
   ·cbv
    refine⟨_,al hM LG rfl,?_⟩;cbv
    refine⟨_,al hM Ry rfl,?_⟩;cbv
    refine⟨_,fun hp=>al hM (ax amN hp.1) rfl,?_⟩;cbv
    refine⟨_,fun hp=>al hM (ax Rx hp.1) rfl,?_⟩;cbv
    all_goals exact .inl rfl
   cbv
   refine si h (fun h=>by cbv;cases h;exact fin) fun h=>?_
   cbv
   exact bN (rp _ _ h)
  cbv
  exact bN (ox _ _ h)
 include hI hM
theorem Fg{a0:List aI}{v:List Bool}(h:sO I M n a0=some v):
  bQ 113 [(.sl r (M.map (aW M r) a0))] (.sl r (M.map bL v)) g nx:=by
 refine cC func113 aqN r Wk YQ [] 56 ntmps113 [.tmp 2] hI fun call hc=>?_
 cbv
 refine lp h (fun(l1,z2)=>[(3,(.gs r (.l 54) (M.map bL l1))),(4,(vi z2))]) (fun _=>[]) fun jJ m1 aQ st h=>?_
 obtain⟨l1,z2⟩:=st
 dsimp only[lR]at h
 cbv
 refine letE h fun n3 WX h=>⟨_,ak hI hM WX,?_⟩;cbv
 refine si h (fun h=>?_) fun h=>by cbv;cases h;exact fin
 cbv
 refine ae h fun x4 qh h=>⟨_,al hM qh rfl,?_⟩;cbv
 refine lp h (fun(z5,z6)=>[(5,(vb z5)),(6,(vi z6))]) (fun _=>[]) fun AO m2 cS st h=>?_
 obtain⟨z5,z6⟩:=st
 dsimp only[jz]at h
 cbv
 refine ae h fun x7 Bb h=>⟨_,al hM Bb rfl,?_⟩;cbv
 refine letE h fun n8 O6 h=>⟨_,ak hI hM O6,?_⟩;cbv
 refine si h (fun h=>?_) fun h=>?_
 ·cbv
  refine ae h fun x9 WT h=>⟨_,fun hp=>al hM (ax WT hp.1) rfl,?_⟩;cbv
  refine ae h fun vX xC h=>⟨_,fun hp=>al hM (ax (ax xC hp.1) hp.2.1) rfl,?_⟩;cbv
  refine ae h fun Fw wG h=>⟨_,fun hp=>al hM (ax (ax wG hp.1) hp.2.1) rfl,?_⟩;cbv
  refine ae h fun tK mG h=>⟨_,fun hp=>al hM (ax (ax mG hp.1) hp.2.1) rfl,?_⟩;cbv
  exact bN (cS _ _ h)
 cbv
 refine⟨_,bJ (enc:=bL) (x:=z5) hM (ah _) rfl,?_⟩;cbv
 refine ae h fun wH Sm h=>⟨_,aw (enc:=bL) hI hM Sm (fun _=>rfl) rfl (fun _=>rfl),?_⟩;cbv
 exact bN (aQ _ _ h)
 include hI hM
theorem AG{a0:ai}{a1:aj}{a2:ag}{a3:Int}{v:Int}(h:ko I M n a0 a1 a2 a3=some v):
  bQ 65 [(.agg (aX M r a0)),(.agg (aq M r a1)),(.agg (az M r a2)),(vi a3)] (vi v) g nx:=by
 refine cC func65 c65 r abl afw [] 149 ntmps65 [.tmp 8] hI fun call hc=>?_
 cbv
 refine ae h fun x1 qx1 h=>⟨_,al hM qx1 rfl,?_⟩;cbv
 refine ae h fun y2 qX h=>⟨_,_,_,us hc (dJ hI hM qX),?_⟩;cbv
 refine si h (fun h=>by cbv;cases h;exact fin) fun h=>?_
 cbv
 refine ae h fun y3 Hl h=>⟨_,fun hp=>us hc (p5 hI hM (ax (ax Hl hp.1) hp.2.1)),?_⟩;cbv
 refine si h (fun h=>by cbv;cases h;exact fin) fun h=>?_
 cbv
 refine ae h fun y4 lC h=>⟨_,fun hp=>us hc (dJ hI hM (ax lC hp.1)),?_⟩;cbv
 refine ae h fun y5 Dh h=>⟨_,fun hp=>us hc (dJ hI hM (ax (ax Dh hp.1) hp.2.1)),?_⟩;cbv
 refine si h (fun h=>by cbv;cases h;exact fin) fun h=>?_
 cbv
 refine letE h fun n6 Jk h=>⟨_,ak hI hM Jk,?_⟩;cbv
 refine⟨_,ak hI hM Jk,?_⟩;cbv
 refine si h (fun h=>by cbv;cases h;exact fin) fun h=>?_
 cbv
 refine lp h (fun z7=>[(10,(vi z7))]) (fun z7=>[]) fun jJ m1 aQ z7 h=>?_
 dsimp only[ig]at h
 cbv
 refine letE h fun n8 O6 h=>⟨_,ak hI hM O6,?_⟩;cbv
 refine si h (fun h=>?_) fun h=>?_
 ·cbv
  refine ae h fun x9 WT h=>⟨_,al hM WT rfl,?_⟩;cbv
  refine ae h fun qT nc h=>⟨_,_,_,us hc (dJ hI hM nc),?_⟩;cbv
  refine si h (fun h=>by cbv;cases h;exact fin) fun h=>?_
  cbv
  exact bN (aQ _ _ h)
 cbv
 refine si h (fun h=>by cbv;cases h;exact fin) fun h=>?_
 cbv
 refine ae h fun CG Dl h=>⟨_,_,_,us hc (nD hI hM Dl),?_⟩;cbv
 refine si h (fun h=>by cbv;cases h;exact fin) fun h=>?_
 cbv
 refine letE h fun n13 anb h=>?_
 refine ae h fun uk Hq h=>?_
 apply Exists.intro;refine⟨?_,_,rfl,?_⟩
 ·cbv
  refine⟨_,ak hI hM anb,?_⟩;cbv
  refine⟨_,al hM Hq rfl,?_⟩;cbv
  all_goals exact .inl rfl
 cbv
 refine si h (fun h=>by cbv;cases h;exact fin) fun h=>?_
 cbv
 refine ae h fun wH Sm h=>⟨_,vN hI hM Sm (fun _=>rfl),?_⟩;cbv
 refine ae h fun IK LB h=>⟨_,_,_,us hc (Fg hI hM LB),?_⟩;cbv
 refine lp h (fun EI=>[(13,(vi EI))]) (fun EI=>[]) fun AO m2 cS EI h=>?_
 dsimp only[ic]at h
 cbv
 refine letE h fun Qb RX h=>⟨_,ak hI hM RX,?_⟩;cbv
 refine si h (fun h=>?_) fun h=>by cbv;cases h;exact fin
 cbv
 refine ae h fun Fv wF h=>⟨_,al hM wF rfl,?_⟩;cbv
 refine ae h fun dY Dp h=>⟨_,al hM Dp rfl,?_⟩;cbv
 refine si h (fun h=>by cbv;cases h;exact fin) fun h=>?_
 as_aux_lemma=>
  cbv
  exact bN (cS _ _ h)
 include hI hM
theorem vz{a0:ai}{v:Int}(h:nI I M n a0=some v):
  bQ 14 [(.agg (aX M r a0))] (vi v) g nx:=by
 refine cC func14 c14 r abV af5 [] 101 ntmps14 [.tmp 2] hI fun call hc=>?_
 cbv
 refine letE h fun n1 cY h=>⟨_,ak hI hM cY,?_⟩;cbv
 refine ae h fun y2 qX h=>⟨_,_,_,us hc (dJ hI hM qX),?_⟩;cbv
 refine si h (fun h=>by cbv;cases h;exact fin) fun h=>?_
 cbv
 refine lp h (fun z3=>[(3,(vi z3))]) (fun z3=>[]) fun jJ m1 aQ z3 h=>?_
 dsimp only[ky]at h
 cbv
 refine letE h fun n4 LP h=>⟨_,ak hI hM LP,?_⟩;cbv
 refine si h (fun h=>?_) fun h=>?_
 ·cbv
  refine ae h fun x5 pI h=>⟨_,al hM pI rfl,?_⟩;cbv
  refine ae h fun y6 wE h=>⟨_,_,_,us hc (wN hI hM wE),?_⟩;cbv
  refine si h (fun h=>by cbv;cases h;exact fin) fun h=>?_
  cbv
  exact bN (aQ _ _ h)
 cbv
 refine lp h (fun z8=>[(5,(vi z8))]) (fun z8=>[]) fun AO m2 cS z8 h=>?_
 dsimp only[kx]at h
 cbv
 refine letE h fun n9 qn9 h=>⟨_,ak hI hM qn9,?_⟩;cbv
 refine si h (fun h=>?_) fun h=>?_
 ·cbv
  refine ae h fun vX xC h=>?_
  refine ae h fun rJ rU h=>?_
  apply Exists.intro;refine⟨?_,_,rfl,?_⟩
  ·cbv
   refine⟨_,al hM xC rfl,?_⟩;cbv
   refine⟨?_,trivial⟩
   refine⟨_,_,_,us hc (nD hI hM rU),?_⟩;cbv
   all_goals exact .inl rfl
  cbv
  refine si h (fun h=>by cbv;cases h;exact fin) fun h=>?_
  cbv
  exact bN (cS _ _ h)
 cbv
 refine lp h (fun nz=>[(6,(vi nz))]) (fun nz=>[]) fun M6 m3 jE nz h=>?_
 dsimp only[ku]at h
 cbv
 refine letE h fun JI LU h=>⟨_,ak hI hM LU,?_⟩;cbv
 refine si h (fun h=>?_) fun h=>by cbv;cases h;exact fin
 cbv
 refine lp h (fun uh=>[(7,(vi uh)),(52,.any)]) (fun uh=>[]) fun Qt m4 pW uh h=>?_
 dsimp only[kr]at h
 cbv
 refine ae h fun x16 RA h=>⟨_,al hM RA rfl,?_⟩;cbv
 refine letE h fun S3 LR h=>⟨_,ak hI hM LR,?_⟩;cbv
 refine si h (fun h=>?_) fun h=>?_
 ·as_aux_lemma=>
   cbv
   refine⟨_,al hM RA rfl,?_⟩;cbv
   refine ae h fun wC LI h=>⟨_,al hM LI rfl,?_⟩;cbv
   refine lp h (fun ey=>[(9,(vi ey))]) (fun ey=>[]) fun Qs m5 ox ey h=>?_
   dsimp only[kq]at h
   cbv
   refine letE h fun n20 ana h=>⟨_,ak hI hM ana,?_⟩;cbv
   refine si h (fun h=>?_) fun h=>?_
   ·cbv
    refine ae h fun wQ Rz h=>?_
    refine ae h fun UW Rm h=>?_
    apply Exists.intro;refine⟨?_,_,rfl,?_⟩
    ·cbv
     refine⟨_,al hM Rz rfl,?_⟩;cbv
     refine⟨?_,trivial⟩
     refine⟨_,_,_,us hc (AG hI hM Rm),?_⟩;cbv
     all_goals exact .inl rfl
    cbv
    refine si h (fun h=>by cbv;cases h;exact fin) fun h=>?_
    cbv
    exact bN (ox _ _ h)
   cbv
   refine letE h fun n24 am8 h=>⟨_,ak hI hM am8,?_⟩;cbv
   refine ae h fun Vm Rl h=>⟨_,_,_,us hc (dJ hI hM Rl),?_⟩;cbv
   refine si h (fun h=>by cbv;cases h;exact fin) fun h=>?_
   cbv
   exact bN (pW _ _ h)
 cbv
 exact bN (jE _ _ h)
 include hI hM
theorem wM{a0:ag}{a1:ag}{v:Bool}(h:jx I M n a0 a1=some v):
  bQ 69 [(.agg (az M p a0)),(.agg (az M r a1))] (vb v) g nx:=by
 refine cC func69 c69 r abh afs [] 100 ntmps69 [.tmp 4] hI fun call hc=>?_
 cbv
 refine letE h fun n1 cY h=>⟨_,ak hI hM cY,?_⟩;cbv
 refine letE h fun n2 mP h=>⟨_,ak hI hM mP,?_⟩;cbv
 refine si h (fun h=>by cbv;cases h;exact fin) fun h=>?_
 cbv
 refine lp h (fun z3=>[(5,(vi z3)),(36,.any)]) (fun z3=>[]) fun jJ m1 aQ z3 h=>?_
 dsimp only[gE]at h
 cbv
 refine letE h fun n4 LP h=>⟨_,ak hI hM LP,?_⟩;cbv
 refine si h (fun h=>?_) fun h=>by cbv;cases h;exact fin
 cbv
 refine ae h fun x5 pI h=>?_
 refine ae h fun x6 v8 h=>?_
 refine aT none [(6,(.ptr (.s 6) 0)),(7,(.ptr (.s 7) 0))] [(6,.box [(vi x5.kind),(vs x5.name),(vi x5.num),(.sl p (M.map ao x5.args))]),(7,.box [(vi x6.kind),(vs x6.name),(vi x6.num),(.sl r (M.map ao x6.args))])] g nx ?_ ?_
 ·cbv
  refine⟨_,al hM pI rfl,?_⟩;cbv
  refine⟨?_,?_⟩
  ·as_aux_lemma=>
    refine⟨_,al hM v8 rfl,?_⟩;cbv
    refine⟨?_,?_⟩
    ·refine⟨?_,?_⟩
     ·refine⟨?_,trivial⟩
      refine⟨?_,trivial⟩
      refine⟨?_,trivial⟩
      all_goals first|exact Or.inl rfl|exact bB
     refine⟨?_,trivial⟩
     refine⟨?_,trivial⟩
     refine⟨?_,trivial⟩
     refine⟨?_,trivial⟩
     all_goals first|exact Or.inl rfl|exact bB
    refine⟨?_,?_⟩
    ·refine⟨?_,?_⟩
     ·refine⟨?_,trivial⟩
      refine⟨?_,trivial⟩
      refine⟨?_,trivial⟩
      all_goals first|exact Or.inl rfl|exact bB
     refine⟨?_,trivial⟩
     refine⟨?_,?_⟩
     ·refine⟨?_,trivial⟩
      refine⟨?_,trivial⟩
      all_goals first|exact Or.inl rfl|exact bB
     refine⟨?_,trivial⟩
     refine⟨?_,trivial⟩
     all_goals first|exact Or.inl rfl|exact bB
    refine⟨?_,trivial⟩
    refine⟨?_,?_⟩
    ·refine⟨?_,trivial⟩
     refine⟨?_,trivial⟩
     refine⟨?_,trivial⟩
     all_goals first|exact Or.inl rfl|exact bB
    refine⟨?_,trivial⟩
    refine⟨?_,?_⟩
    ·refine⟨?_,trivial⟩
     refine⟨?_,trivial⟩
     all_goals first|exact Or.inl rfl|exact bB
    refine⟨?_,trivial⟩
    refine⟨?_,trivial⟩
    all_goals first|exact Or.inl rfl|exact bB
  refine⟨?_,?_⟩
  ·refine⟨?_,?_⟩
   ·refine⟨_,al hM v8 rfl,?_⟩;cbv
    refine⟨?_,?_⟩
    ·refine⟨?_,trivial⟩
     refine⟨?_,trivial⟩
     refine⟨?_,trivial⟩
     all_goals first|exact Or.inl rfl|exact bB
    refine⟨?_,trivial⟩
    refine⟨?_,?_⟩
    ·refine⟨?_,trivial⟩
     refine⟨?_,trivial⟩
     all_goals first|exact Or.inl rfl|exact bB
    refine⟨?_,trivial⟩
    refine⟨?_,trivial⟩
    all_goals first|exact Or.inl rfl|exact bB
   refine⟨?_,trivial⟩
   refine⟨?_,?_⟩
   ·refine⟨_,al hM v8 rfl,?_⟩;cbv
    refine⟨?_,?_⟩
    ·refine⟨?_,trivial⟩
     refine⟨?_,trivial⟩
     all_goals first|exact Or.inl rfl|exact bB
    refine⟨?_,trivial⟩
    refine⟨?_,trivial⟩
    all_goals first|exact Or.inl rfl|exact bB
   refine⟨?_,trivial⟩
   refine⟨_,al hM v8 rfl,?_⟩;cbv
   refine⟨?_,trivial⟩
   all_goals first|exact Or.inl rfl|exact bB
  refine⟨?_,trivial⟩
  refine⟨?_,?_⟩
  ·refine⟨_,al hM v8 rfl,?_⟩;cbv
   refine⟨?_,?_⟩
   ·refine⟨?_,trivial⟩
    refine⟨?_,trivial⟩
    refine⟨?_,trivial⟩
    all_goals first|exact Or.inl rfl|exact bB
   refine⟨?_,trivial⟩
   refine⟨?_,?_⟩
   ·refine⟨?_,trivial⟩
    refine⟨?_,trivial⟩
    all_goals first|exact Or.inl rfl|exact bB
   refine⟨?_,trivial⟩
   refine⟨?_,trivial⟩
   all_goals first|exact Or.inl rfl|exact bB
  refine⟨?_,trivial⟩
  refine⟨?_,?_⟩
  ·refine⟨_,al hM v8 rfl,?_⟩;cbv
   refine⟨?_,?_⟩
   ·refine⟨?_,trivial⟩
    refine⟨?_,trivial⟩
    all_goals first|exact Or.inl rfl|exact bB
   refine⟨?_,trivial⟩
   refine⟨?_,trivial⟩
   all_goals first|exact Or.inl rfl|exact bB
  refine⟨?_,trivial⟩
  refine⟨_,al hM v8 rfl,?_⟩;cbv
  refine⟨?_,trivial⟩
  all_goals first|exact Or.inl rfl|exact bB
 cbv
 refine letE h fun n7 WV h=>⟨_,ak hI hM WV,?_⟩;cbv
 refine letE h fun n8 O6 h=>⟨_,ak hI hM O6,?_⟩;cbv
 refine si h (fun h=>by cbv;cases h;exact fin) fun h=>?_
 cbv
 refine lp h (fun z9=>[(8,(vi z9))]) (fun z9=>[]) fun AO m2 cS z9 h=>?_
 dsimp only[gD]at h
 cbv
 refine letE h fun JJ Hu h=>⟨_,ak hI hM Hu,?_⟩;cbv
 refine si h (fun h=>?_) fun h=>?_
 ·cbv
  refine ae h fun Fw wG h=>?_
  refine ae h fun tK mG h=>?_
  apply Exists.intro;refine⟨?_,_,rfl,?_⟩
  ·cbv
   refine⟨_,al hM wG rfl,?_⟩;cbv
   refine⟨_,al hM mG rfl,?_⟩;cbv
   all_goals exact .inl rfl
  cbv
  refine si h (fun h=>by cbv;cases h;exact fin) fun h=>?_
  cbv
  exact bN (cS _ _ h)
 cbv
 exact bN (aQ _ _ h)
 include hI hM
theorem bP{a0:ai}{a1:ai}{v:Bool}(h:bF I M n a0 a1=some v):
  bQ 18 [(.agg (aX M p a0)),(.agg (aX M r a1))] (vb v) g nx:=by
 refine cC func18 c18 r abR af1 [] 73 ntmps18 [.tmp 4] hI fun call hc=>?_
 cbv
 refine letE h fun n1 cY h=>⟨_,ak hI hM cY,?_⟩;cbv
 refine letE h fun n2 mP h=>⟨_,ak hI hM mP,?_⟩;cbv
 refine si h (fun h=>by cbv;cases h;exact fin) fun h=>?_
 cbv
 refine lp h (fun z3=>[(5,(vi z3)),(15,.any)]) (fun z3=>[]) fun jJ m1 aQ z3 h=>?_
 dsimp only[o5]at h
 cbv
 refine letE h fun n4 LP h=>⟨_,ak hI hM LP,?_⟩;cbv
 refine si h (fun h=>?_) fun h=>by cbv;cases h;exact fin
 cbv
 refine ae h fun x5 pI h=>?_
 refine ae h fun x6 v8 h=>?_
 refine aT none [(6,(.ptr (.s 6) 0)),(7,(.ptr (.s 7) 0))] [(6,.box [(vs x5.name),(vi x5.arity),(.sl p (M.map (az M p) x5.af))]),(7,.box [(vs x6.name),(vi x6.arity),(.sl r (M.map (az M r) x6.af))])] g nx ?_ ?_
 ·cbv
  refine⟨_,al hM pI rfl,?_⟩;cbv
  refine⟨?_,?_⟩
  ·as_aux_lemma=>
    refine⟨_,al hM v8 rfl,?_⟩;cbv
    refine⟨?_,?_⟩
    ·refine⟨?_,?_⟩
     ·refine⟨?_,trivial⟩
      refine⟨?_,trivial⟩
      refine⟨?_,trivial⟩
      all_goals first|exact Or.inl rfl|exact bB
     refine⟨?_,trivial⟩
     refine⟨?_,trivial⟩
     refine⟨?_,trivial⟩
     refine⟨?_,trivial⟩
     all_goals first|exact Or.inl rfl|exact bB
    refine⟨?_,?_⟩
    ·refine⟨?_,?_⟩
     ·refine⟨?_,trivial⟩
      refine⟨?_,trivial⟩
      refine⟨?_,trivial⟩
      all_goals first|exact Or.inl rfl|exact bB
     refine⟨?_,trivial⟩
     refine⟨?_,?_⟩
     ·refine⟨?_,trivial⟩
      refine⟨?_,trivial⟩
      all_goals first|exact Or.inl rfl|exact bB
     refine⟨?_,trivial⟩
     refine⟨?_,trivial⟩
     all_goals first|exact Or.inl rfl|exact bB
    refine⟨?_,trivial⟩
    refine⟨?_,?_⟩
    ·refine⟨?_,trivial⟩
     refine⟨?_,trivial⟩
     refine⟨?_,trivial⟩
     all_goals first|exact Or.inl rfl|exact bB
    refine⟨?_,trivial⟩
    refine⟨?_,?_⟩
    ·refine⟨?_,trivial⟩
     refine⟨?_,trivial⟩
     all_goals first|exact Or.inl rfl|exact bB
    refine⟨?_,trivial⟩
    refine⟨?_,trivial⟩
    all_goals first|exact Or.inl rfl|exact bB
  refine⟨?_,?_⟩
  ·refine⟨?_,?_⟩
   ·refine⟨_,al hM v8 rfl,?_⟩;cbv
    refine⟨?_,?_⟩
    ·refine⟨?_,trivial⟩
     refine⟨?_,trivial⟩
     refine⟨?_,trivial⟩
     all_goals first|exact Or.inl rfl|exact bB
    refine⟨?_,trivial⟩
    refine⟨?_,?_⟩
    ·refine⟨?_,trivial⟩
     refine⟨?_,trivial⟩
     all_goals first|exact Or.inl rfl|exact bB
    refine⟨?_,trivial⟩
    refine⟨?_,trivial⟩
    all_goals first|exact Or.inl rfl|exact bB
   refine⟨?_,trivial⟩
   refine⟨?_,?_⟩
   ·refine⟨_,al hM v8 rfl,?_⟩;cbv
    refine⟨?_,?_⟩
    ·refine⟨?_,trivial⟩
     refine⟨?_,trivial⟩
     all_goals first|exact Or.inl rfl|exact bB
    refine⟨?_,trivial⟩
    refine⟨?_,trivial⟩
    all_goals first|exact Or.inl rfl|exact bB
   refine⟨?_,trivial⟩
   refine⟨_,al hM v8 rfl,?_⟩;cbv
   refine⟨?_,trivial⟩
   all_goals first|exact Or.inl rfl|exact bB
  refine⟨?_,trivial⟩
  refine⟨?_,?_⟩
  ·refine⟨_,al hM v8 rfl,?_⟩;cbv
   refine⟨?_,?_⟩
   ·refine⟨?_,trivial⟩
    refine⟨?_,trivial⟩
    refine⟨?_,trivial⟩
    all_goals first|exact Or.inl rfl|exact bB
   refine⟨?_,trivial⟩
   refine⟨?_,?_⟩
   ·refine⟨?_,trivial⟩
    refine⟨?_,trivial⟩
    all_goals first|exact Or.inl rfl|exact bB
   refine⟨?_,trivial⟩
   refine⟨?_,trivial⟩
   all_goals first|exact Or.inl rfl|exact bB
  refine⟨?_,trivial⟩
  refine⟨?_,?_⟩
  ·refine⟨_,al hM v8 rfl,?_⟩;cbv
   refine⟨?_,?_⟩
   ·refine⟨?_,trivial⟩
    refine⟨?_,trivial⟩
    all_goals first|exact Or.inl rfl|exact bB
   refine⟨?_,trivial⟩
   refine⟨?_,trivial⟩
   all_goals first|exact Or.inl rfl|exact bB
  refine⟨?_,trivial⟩
  refine⟨_,al hM v8 rfl,?_⟩;cbv
  refine⟨?_,trivial⟩
  all_goals first|exact Or.inl rfl|exact bB
 cbv
 refine letE h fun n7 WV h=>⟨_,ak hI hM WV,?_⟩;cbv
 refine letE h fun n8 O6 h=>⟨_,ak hI hM O6,?_⟩;cbv
 refine si h (fun h=>by cbv;cases h;exact fin) fun h=>?_
 cbv
 refine lp h (fun z9=>[(8,(vi z9))]) (fun z9=>[]) fun AO m2 cS z9 h=>?_
 dsimp only[oZ]at h
 cbv
 refine letE h fun JJ Hu h=>⟨_,ak hI hM Hu,?_⟩;cbv
 refine si h (fun h=>?_) fun h=>?_
 ·cbv
  refine ae h fun Fw wG h=>?_
  refine ae h fun tK mG h=>?_
  refine ae h fun ov pH h=>?_
  apply Exists.intro;refine⟨?_,_,rfl,?_⟩
  ·cbv
   refine⟨_,al hM wG rfl,?_⟩;cbv
   refine⟨_,al hM mG rfl,?_⟩;cbv
   refine⟨?_,trivial⟩
   refine⟨_,_,_,us hc (wM hI hM pH),?_⟩;cbv
   all_goals exact .inl rfl
  cbv
  refine si h (fun h=>by cbv;cases h;exact fin) fun h=>?_
  cbv
  exact bN (cS _ _ h)
 cbv
 exact bN (aQ _ _ h)
 include hI hM
theorem Ff{a0:ag}{v:List Bool}(h:De I M n a0=some v):
  bQ 130 [(.agg (az M r a0))] (.sl r (M.map bL v)) g nx:=by
 refine cC func130 aqD r V2 YA [] 81 ntmps130 [.tmp 2] hI fun call hc=>?_
 cbv
 refine letE h fun n1 cY h=>⟨_,ak hI hM cY,?_⟩;cbv
 refine ae h fun l2 Jo h=>⟨_,_,dF (enc:=bL) hI hM Jo (by decide) rfl,?_⟩;cbv
 refine⟨_,ak hI hM cY,?_⟩;cbv
 refine lp h (fun(l3,z4)=>[(4,(vi z4))]) (fun(l3,z4)=>[(9,.arr 1 (M.map bL l3))]) fun jJ m1 aQ st h=>?_
 obtain⟨l3,z4⟩:=st
 dsimp only[yH]at h
 cbv
 refine si h (fun h=>?_) fun h=>?_
 ·as_aux_lemma=>
   cbv
   refine ae h fun k5 qk5 h=>⟨_,bV hI hM qk5,?_⟩;cbv
   refine ae h fun x6 v8 h=>⟨_,_,rfl,ba hM v8,rfl,?_⟩;cbv
   refine ae h fun x7 Bb h=>⟨_,fun hp=>al hM (ax Bb hp.1) rfl,?_⟩;cbv
   refine⟨_,bV hI hM qk5,?_⟩;cbv
   refine ae h fun l8 Sd h=>⟨_,cN hI hM v8 Sd (by decide) rfl rfl,?_⟩;cbv
   refine lp h (fun(l9,yp)=>[(5,(vi yp))]) (fun(l9,yp)=>[(9,.arr 1 (M.map bL l9))]) fun AO m2 cS st h=>?_
   obtain⟨l9,yp⟩:=st
   dsimp only[yG]at h
   cbv
   refine ae h fun Fw wG h=>⟨_,al hM wG rfl,?_⟩;cbv
   refine letE h fun U7 R3 h=>⟨_,ak hI hM R3,?_⟩;cbv
   refine si h (fun h=>?_) fun h=>?_
   ·cbv
    refine ae h fun CL yJ h=>?_
    refine ae h fun k14 W2 h=>?_
    refine ae h fun ym BO h=>?_
    refine ae h fun k16 anC h=>?_
    refine ae h fun qf Af h=>?_
    refine ae h fun qF Sk h=>?_
    apply Exists.intro;refine⟨?_,_,rfl,?_⟩
    ·cbv
     refine⟨_,al hM wG rfl,?_⟩;cbv
     refine⟨_,al hM yJ rfl,?_⟩;cbv
     refine⟨_,al hM wG rfl,?_⟩;cbv
     refine⟨_,al hM yJ rfl,?_⟩;cbv
     refine⟨_,bV hI hM W2,?_⟩;cbv
     refine⟨_,_,rfl,ba hM BO,rfl,?_⟩;cbv
     refine⟨_,fun hp=>bV hI hM (ax anC hp.1),?_⟩;cbv
     refine⟨_,_,rfl,fun hp=>ba hM (ax Af hp.1),rfl,?_⟩;cbv
     refine⟨_,bV hI hM W2,?_⟩;cbv
     refine⟨?_,trivial⟩
     refine⟨_,cN hI hM BO Sk (by decide) rfl rfl,?_⟩;cbv
     all_goals exact .inl rfl
    cbv
    exact bN (cS _ _ h)
   cbv
   exact bN (aQ _ _ h)
 cbv
 refine ae h fun OL qi h=>?_
 obtain rfl:=Option.some.inj h
 cbv
 all_goals(repeat' apply And.intro)
 all_goals first|trivial|rfl|exact(aH hM)|exact dg hM qi
 include hI hM
theorem kL{a0:aI}{a1:List Int}{v:aI}(h:ei I M n a0 a1=some v):
  bQ 131 [(.agg (aW M r a0)),(.sl s (M.map ao a1))] (.agg (aW M r v)) g nx:=by
 refine cC func131 aqC r V1 Yz [] 35 ntmps131 [.cell 4 64] hI fun call hc=>?_
 cbv
 refine lp h (fun(l1,z2)=>[(6,(vi z2))]) (fun(l1,z2)=>[(5,.box [(vi a0.kind),(vs a0.name),(vi a0.num),(.gs r (.c 5 3) (M.map ao l1))])]) fun jJ m1 aQ st h=>?_
 obtain⟨l1,z2⟩:=st
 dsimp only[iZ]at h
 cbv
 refine letE h fun n3 WX h=>⟨_,ak hI hM WX,?_⟩;cbv
 refine si h (fun h=>?_) fun h=>by cbv;cases h;exact fin
 cbv
 refine ae h fun x4 qh h=>?_
 refine ae h fun x5 pI h=>?_
 refine ae h fun l6 LV h=>?_
 apply Exists.intro;refine⟨?_,_,rfl,?_⟩
 ·cbv
  refine⟨_,al hM qh rfl,?_⟩;cbv
  refine⟨_,al hM pI rfl,?_⟩;cbv
  refine⟨?_,trivial⟩
  refine⟨_,bJ (enc:=ao) (x:=x5) hM (ah _) rfl,?_⟩;cbv
  refine⟨?_,trivial⟩
  refine⟨_,aw (enc:=ao) hI hM LV (fun _=>rfl) rfl (fun _=>rfl),?_⟩;cbv
  refine⟨?_,trivial⟩
  all_goals exact .inl rfl
 cbv
 exact bN (aQ _ _ h)
 include hI hM
theorem AF{a0:ag}{v:ag}(h:wW I M n a0=some v):
  bQ 102 [(.agg (az M r a0))] (.agg (az M r v)) g nx:=by
 refine cC func102 aqV r Wu Y0 [] 54 ntmps102 [.cell 2 61] hI fun call hc=>?_
 cbv
 refine ae h fun y1 cR h=>⟨_,_,_,us hc (Ff hI hM cR),?_⟩;cbv
 refine letE h fun n2 mP h=>⟨_,ak hI hM mP,?_⟩;cbv
 refine ae h fun l3 ND h=>⟨_,_,dF (enc:=ao) hI hM ND (by decide) rfl,?_⟩;cbv
 refine lp h (fun(l4,l5,z6)=>[(6,(vi z6))]) (fun(l4,l5,z6)=>[(4,.box [(vs a0.head),(vi a0.kids),(.gs r (.c 4 2) (M.map (aW M r) l5)),(vi 0)]),(17,.arr 1 (M.map ao l4))]) fun jJ m1 aQ st h=>?_
 obtain⟨l4,l5,z6⟩:=st
 dsimp only[tN]at h
 cbv
 refine letE h fun n7 WV h=>⟨_,ak hI hM WV,?_⟩;cbv
 refine si h (fun h=>?_) fun h=>?_
 ·as_aux_lemma=>
   cbv
   refine ae h fun x8 Rr h=>⟨_,al hM Rr rfl,?_⟩;cbv
   refine si h (fun h=>?_) fun h=>?_
   ·cbv
    refine letE h fun n9 qn9 h=>⟨_,ak hI hM qn9,?_⟩;cbv
    refine ae h fun ZU SG h=>⟨_,bV hI hM SG,?_⟩;cbv
    refine ae h fun Fw wG h=>?_
    refine ae h fun iJ adG h=>⟨_,cN hI hM wG adG (by decide) rfl rfl,?_⟩;cbv
    refine ae h fun CL yJ h=>?_
    refine ae h fun u14 RL h=>?_
    refine ae h fun Ft Dj h=>?_
    refine ae h fun Mq adF h=>?_
    apply Exists.intro;refine⟨?_,_,rfl,?_⟩
    ·cbv
     refine⟨_,al hM yJ rfl,?_⟩;cbv
     refine⟨?_,trivial⟩
     refine⟨fun _=>rfl,(.agg (aW M r Ft)),g,nx,fun ρ=>by cbv;refine us hc ((kL (s:=ρ) hI hM Dj).wk ?_);exact⟨aA _,(dg hM RL),trivial⟩,?_⟩;cbv
     refine⟨?_,trivial⟩
     refine⟨_,bJ (enc:=(aW M r)) (x:=Ft) hM (ah _) rfl,?_⟩;cbv
     refine⟨?_,trivial⟩
     refine⟨_,aw (enc:=(aW M r)) hI hM adF (fun _=>rfl) rfl (fun _=>rfl),?_⟩;cbv
     refine⟨?_,trivial⟩
     all_goals exact .inl rfl
    cbv
    exact bN (aQ _ _ h)
   cbv
   exact bN (aQ _ _ h)
 cbv
 refine ae h fun k20 anA h=>⟨_,bV hI hM anA,?_⟩;cbv
 refine ae h fun wQ Rz h=>⟨_,_,rfl,ba hM Rz,rfl,?_⟩;cbv
 cbv;cases h;exact fin
 include hI hM
theorem p4{a0:aI}{v:Bool}(h:ja I M n a0=some v):
  bQ 83 [(.agg (aW M r a0))] (vb v) g nx:=have _:=hM;by
 refine cC func83 c83 r aba afl [] 11 ntmps83 [.tmp 2] hI fun call hc=>?_
 cbv;cases h;exact fin
 include hI hM
theorem zu{a0:ag}{v:ag}(h:uC I M n a0=some v):
  bQ 105 [(.agg (az M r a0))] (.agg (az M r v)) g nx:=by
 refine cC func105 aqS r Wr YX [] 101 ntmps105 [.cell 2 61] hI fun call hc=>?_
 cbv
 refine letE h fun n1 cY h=>⟨_,ak hI hM cY,?_⟩;cbv
 refine ae h fun l2 Jo h=>⟨_,_,dF (enc:=bL) hI hM Jo (by decide) rfl,?_⟩;cbv
 refine⟨_,ak hI hM cY,?_⟩;cbv
 refine lp h (fun(l3,z4)=>[(4,(vi z4))]) (fun(l3,z4)=>[(12,.arr 1 (M.map bL l3))]) fun jJ m1 aQ st h=>?_
 obtain⟨l3,z4⟩:=st
 dsimp only[rT]at h
 cbv
 refine si h (fun h=>?_) fun h=>?_
 ·as_aux_lemma=>
   cbv
   refine lp h (fun(l5,z6)=>[(5,(vi z6))]) (fun(l5,z6)=>[(12,.arr 1 (M.map bL l5))]) fun AO m2 cS st h=>?_
   obtain⟨l5,z6⟩:=st
   dsimp only[rS]at h
   cbv
   refine ae h fun x7 Bb h=>⟨_,al hM Bb rfl,?_⟩;cbv
   refine letE h fun n8 O6 h=>⟨_,ak hI hM O6,?_⟩;cbv
   refine si h (fun h=>?_) fun h=>?_
   ·cbv
    refine⟨_,al hM Bb rfl,?_⟩;cbv
    refine ae h fun y9 Hi h=>⟨_,_,_,us hc (p4 hI hM Hi),?_⟩;cbv
    refine ae h fun vX xC h=>⟨_,fun hp=>al hM (ax xC hp.1) rfl,?_⟩;cbv
    refine ae h fun k11 BQ h=>⟨_,fun hp=>bV hI hM (ax (ax BQ hp.1) hp.2.1),?_⟩;cbv
    refine ae h fun tK mG h=>⟨_,_,rfl,fun hp=>ba hM (ax (ax mG hp.1) hp.2.1),rfl,?_⟩;cbv
    refine si h (fun h=>?_) fun h=>?_
    ·cbv
     refine⟨_,al hM Bb rfl,?_⟩;cbv
     refine ae h fun CL yJ h=>⟨_,al hM yJ rfl,?_⟩;cbv
     refine ae h fun k14 W2 h=>⟨_,bV hI hM W2,?_⟩;cbv
     refine ae h fun ym BO h=>?_
     refine ae h fun Mq adF h=>⟨_,cN hI hM BO adF (by decide) rfl rfl,?_⟩;cbv
     exact bN (cS _ _ h)
    cbv
    exact bN (cS _ _ h)
   cbv
   exact bN (aQ _ _ h)
 cbv
 refine lp h (fun(u9,BJ)=>[(7,(vi BJ))]) (fun(u9,BJ)=>[(6,.box [(vs a0.head),(vi a0.kids),(.gs r (.c 6 2) (M.map (aW M r) u9)),(vi a0.result)])]) fun M6 m3 jE st h=>?_
 obtain⟨u9,BJ⟩:=st
 dsimp only[rR]at h
 cbv
 refine letE h fun Xb O8 h=>⟨_,ak hI hM O8,?_⟩;cbv
 refine si h (fun h=>?_) fun h=>by cbv;cases h;exact fin
 cbv
 refine ae h fun IW acF h=>⟨_,al hM acF rfl,?_⟩;cbv
 refine ae h fun k25 anx h=>⟨_,fun hp=>bV hI hM (ax anx hp.1),?_⟩;cbv
 refine ae h fun x26 acE h=>⟨_,_,rfl,fun hp=>ba hM (ax acE hp.1),rfl,?_⟩;cbv
 refine si h (fun h=>?_) fun h=>?_
 ·cbv
  refine⟨_,bJ (enc:=(aW M r)) (x:=(⟨5,IW.name,IW.num,IW.args⟩:aI)) hM (ah _) rfl,?_⟩;cbv
  refine ae h fun oQ adD h=>⟨_,aw (enc:=(aW M r)) hI hM adD (fun _=>rfl) rfl (fun _=>rfl),?_⟩;cbv
  exact bN (jE _ _ h)
 cbv
 refine⟨_,bJ (enc:=(aW M r)) (x:=IW) hM (ah _) rfl,?_⟩;cbv
 refine ae h fun sV anf h=>⟨_,aw (enc:=(aW M r)) hI hM anf (fun _=>rfl) rfl (fun _=>rfl),?_⟩;cbv
 exact bN (jE _ _ h)
 include hI hM
theorem vy{a0:ag}{v:Bool}(h:lg I M n a0=some v):
  bQ 114 [(.agg (az M r a0))] (vb v) g nx:=by
 refine cC func114 aqM r Wj YP [] 17 ntmps114 [.tmp 2] hI fun call hc=>?_
 cbv
 refine lp h (fun z1=>[(3,(vi z1))]) (fun z1=>[]) fun jJ m1 aQ z1 h=>?_
 dsimp only[kj]at h
 cbv
 refine letE h fun n2 mP h=>⟨_,ak hI hM mP,?_⟩;cbv
 refine si h (fun h=>?_) fun h=>by cbv;cases h;exact fin
 cbv
 refine ae h fun x3 jt h=>⟨_,al hM jt rfl,?_⟩;cbv
 refine ae h fun y4 lC h=>⟨_,_,_,us hc (p4 hI hM lC),?_⟩;cbv
 refine si h (fun h=>by cbv;cases h;exact fin) fun h=>?_
 cbv
 exact bN (aQ _ _ h)
 include hI hM
theorem vx{a0:aj}{v:Bool}(h:nG I M n a0=some v):
  bQ 66 [(.agg (aq M r a0))] (vb v) g nx:=by
 refine cC func66 c66 r abk afv [] 22 ntmps66 [.tmp 2] hI fun call hc=>?_
 cbv
 refine letE h fun n1 cY h=>⟨_,ak hI hM cY,?_⟩;cbv
 refine ae h fun x2 NC h=>⟨_,fun hp=>al hM (ax NC hp.1) rfl,?_⟩;cbv
 refine ae h fun x3 jt h=>⟨_,fun hp=>al hM (ax jt hp.1) rfl,?_⟩;cbv
 refine ae h fun y4 lC h=>⟨_,fun hp=>us hc (vy hI hM (ax lC hp.1)),?_⟩;cbv
 cbv;cases h;exact fin
 include hI hM
theorem Fe{a0:aj}{a1:aI}{a2:List aI}{a3:Bool}{v:Int}(h:pF I M n a0 a1 a2 a3=some v):
  bQ 132 [(.agg (aq M r a0)),(.agg (aW M r a1)),(.sl r (M.map (aW M r) a2)),(vb a3)] (vi v) g nx:=by
 refine cC func132 aqB r V0 Yy [] 76 ntmps132 [.tmp 8] hI fun call hc=>?_
 cbv
 refine si h (fun h=>?_) fun h=>?_
 ·cbv
  refine ae h fun y1 cR h=>⟨_,_,_,us hc (vx hI hM cR),?_⟩;cbv
  exact si h (fun h=>by cbv;cases h;exact fin) fun h=>by cbv;cases h;exact fin
 cbv
 refine ae h fun x2 NC h=>⟨_,al hM NC rfl,?_⟩;cbv
 refine ae h fun x3 jt h=>⟨_,fun hp=>al hM (ax jt hp.1) rfl,?_⟩;cbv
 refine ae h fun x4 qh h=>⟨_,fun hp=>al hM (ax qh hp.1) rfl,?_⟩;cbv
 refine si h (fun h=>by cbv;cases h;exact fin) fun h=>?_
 cbv
 refine ae h fun x5 pI h=>⟨_,al hM pI rfl,?_⟩;cbv
 refine ae h fun x6 v8 h=>⟨_,al hM v8 rfl,?_⟩;cbv
 refine lp h (fun z7=>[(10,(vi z7))]) (fun z7=>[]) fun jJ m1 aQ z7 h=>?_
 dsimp only[oY]at h
 cbv
 refine letE h fun n8 O6 h=>⟨_,ak hI hM O6,?_⟩;cbv
 refine si h (fun h=>?_) fun h=>by cbv;cases h;exact fin
 cbv
 refine ae h fun x9 WT h=>?_
 refine ae h fun vX xC h=>?_
 refine letE h fun ub xE h=>?_
 refine ae h fun tK mG h=>?_
 refine ae h fun ov pH h=>?_
 apply Exists.intro;refine⟨?_,_,rfl,?_⟩
 ·cbv
  refine⟨_,al hM WT rfl,?_⟩;cbv
  refine⟨_,fun hp=>al hM (ax xC hp.1) rfl,?_⟩;cbv
  refine⟨_,ak hI hM xE,?_⟩;cbv
  refine⟨_,fun hp=>al hM (ax mG hp.1) rfl,?_⟩;cbv
  refine⟨?_,trivial⟩
  refine⟨_,fun hp=>us hc (vy hI hM (ax pH hp.1)),?_⟩;cbv
  all_goals exact .inl rfl
 cbv
 refine si h (fun h=>by cbv;cases h;exact fin) fun h=>?_
 cbv
 exact bN (aQ _ _ h)
 include hI hM
theorem Fc{a0:aI}{a1:aI}{v:Bool}(h:Dd I M n a0 a1=some v):
  bQ 124 [(.agg (aW M r a0)),(.agg (aW M r a1))] (vb v) g nx:=by
 refine cC func124 aqH r V8 YG [] 52 ntmps124 [.tmp 4] hI fun call hc=>?_
 cbv
 refine letE h fun n1 cY h=>⟨_,ak hI hM cY,?_⟩;cbv
 refine letE h fun n2 mP h=>⟨_,ak hI hM mP,?_⟩;cbv
 refine si h (fun h=>by cbv;cases h;exact fin) fun h=>?_
 cbv
 refine lp h (fun z3=>[(5,(vi z3))]) (fun z3=>[]) fun jJ m1 aQ z3 h=>?_
 dsimp only[yF]at h
 cbv
 refine letE h fun n4 LP h=>⟨_,ak hI hM LP,?_⟩;cbv
 refine si h (fun h=>?_) fun h=>by cbv;cases h;exact fin
 cbv
 refine ae h fun x5 pI h=>?_
 refine ae h fun x6 v8 h=>?_
 apply Exists.intro;refine⟨?_,_,rfl,?_⟩
 ·cbv
  refine⟨_,al hM pI rfl,?_⟩;cbv
  refine⟨_,al hM v8 rfl,?_⟩;cbv
  all_goals exact .inl rfl
 cbv
 refine si h (fun h=>by cbv;cases h;exact fin) fun h=>?_
 cbv
 exact bN (aQ _ _ h)
 include hI hM
theorem B6{a0:ag}{v:ag}(h:yE I M n a0=some v):
  bQ 103 [(.agg (az M r a0))] (.agg (az M r v)) g nx:=by
 refine cC func103 aqU r Wt YZ [] 73 ntmps103 [.cell 2 61] hI fun call hc=>?_
 cbv
 refine letE h fun n1 cY h=>⟨_,ak hI hM cY,?_⟩;cbv
 refine ae h fun l2 Jo h=>⟨_,_,dF (enc:=ao) hI hM Jo (by decide) rfl,?_⟩;cbv
 refine lp h (fun(l3,l4,z5)=>[(5,(vi z5))]) (fun(l3,l4,z5)=>[(3,.box [(vs a0.head),(vi a0.kids),(.gs r (.c 3 2) (M.map (aW M r) l4)),(vi 0)]),(17,.arr 1 (M.map ao l3))]) fun jJ m1 aQ st h=>?_
 obtain⟨l3,l4,z5⟩:=st
 dsimp only[uz]at h
 cbv
 refine letE h fun n6 Jk h=>⟨_,ak hI hM Jk,?_⟩;cbv
 refine si h (fun h=>?_) fun h=>?_
 ·as_aux_lemma=>
   cbv
   refine ae h fun x7 Bb h=>⟨_,al hM Bb rfl,?_⟩;cbv
   refine ae h fun u8 ZA h=>?_
   refine ae h fun y9 Hi h=>⟨fun _=>rfl,(.agg (aW M r y9)),g,nx,fun ρ=>by cbv;refine us hc ((kL (s:=ρ) hI hM Hi).wk ?_);exact⟨aA _,(dg hM ZA),trivial⟩,?_⟩;cbv
   refine lp h (fun(yp,Fq)=>[(7,(vi yp)),(8,(vi Fq))]) (fun _=>[]) fun AO m2 cS st h=>?_
   obtain⟨yp,Fq⟩:=st
   dsimp only[uy]at h
   cbv
   refine letE h fun U7 R3 h=>⟨_,ak hI hM R3,?_⟩;cbv
   refine si h (fun h=>?_) fun h=>?_
   ·cbv
    refine ae h fun CL yJ h=>?_
    refine ae h fun EK Dk h=>?_
    apply Exists.intro;refine⟨?_,_,rfl,?_⟩
    ·cbv
     refine⟨_,al hM yJ rfl,?_⟩;cbv
     refine⟨?_,trivial⟩
     refine⟨_,_,_,us hc (Fc hI hM Dk),?_⟩;cbv
     all_goals exact .inl rfl
    cbv
    refine si h (fun h=>?_) fun h=>?_
    ·cbv
     exact bN (cS _ _ h)
    cbv
    exact bN (cS _ _ h)
   cbv
   refine si h (fun h=>?_) fun h=>?_
   ·cbv
    refine letE h fun S3 LR h=>⟨_,ak hI hM LR,?_⟩;cbv
    refine⟨_,bJ (enc:=(aW M r)) (x:=y9) hM (ah _) rfl,?_⟩;cbv
    refine ae h fun qF Sk h=>⟨_,aw (enc:=(aW M r)) hI hM Sk (fun _=>rfl) rfl (fun _=>rfl),?_⟩;cbv
    refine ae h fun k19 anB h=>⟨_,bV hI hM anB,?_⟩;cbv
    refine ae h fun dY Dp h=>?_
    refine ae h fun u9 Hy h=>⟨_,cN hI hM Dp Hy (by decide) rfl rfl,?_⟩;cbv
    exact bN (aQ _ _ h)
   cbv
   refine ae h fun k22 anz h=>⟨_,bV hI hM anz,?_⟩;cbv
   refine ae h fun x23 amP h=>?_
   refine ae h fun KQ anh h=>⟨_,cN hI hM amP anh (by decide) rfl rfl,?_⟩;cbv
   exact bN (aQ _ _ h)
 cbv
 refine ae h fun k28 anw h=>⟨_,bV hI hM anw,?_⟩;cbv
 refine ae h fun qc LG h=>⟨_,_,rfl,ba hM LG,rfl,?_⟩;cbv
 cbv;cases h;exact fin
 include hI hM
theorem tV{a0:ai}{v:(List Bool)×Int}(h:mb I M n a0=some v):
  bQ 16 [(.agg (aX M r a0))] (.gd [(.sl r (M.map bL v.1)),(vi v.2)]) g nx:=by
 refine cC func16 c16 r abT af3 [] 29 ntmps16 [.tmp 2,.tmp 3] hI fun call hc=>?_
 cbv
 refine ae h fun y1 cR h=>⟨_,_,_,us hc (cP hI hM cR),?_⟩;cbv
 refine si h (fun h=>by cbv;cases h;exact fin) fun h=>?_
 cbv
 refine letE h fun n2 mP h=>⟨_,ak hI hM mP,?_⟩;cbv
 refine lp h (fun(z3,l4)=>[(5,(.gs r (.l 26) (M.map bL l4))),(15,(vi z3))]) (fun _=>[]) fun jJ m1 aQ st h=>?_
 obtain⟨z3,l4⟩:=st
 dsimp only[jg]at h
 cbv
 refine si h (fun h=>?_) fun h=>by cbv;cases h;exact fin
 cbv
 refine ae h fun x5 pI h=>⟨_,al hM pI rfl,?_⟩;cbv
 refine ae h fun y6 wE h=>⟨_,_,_,us hc (jl hI hM wE),?_⟩;cbv
 refine⟨_,bJ (enc:=bL) (x:=y6) hM (ah _) rfl,?_⟩;cbv
 refine ae h fun l7 ZB h=>⟨_,aw (enc:=bL) hI hM ZB (fun _=>rfl) rfl (fun _=>rfl),?_⟩;cbv
 exact bN (aQ _ _ h)
 include hI hM
theorem D9{a0:ai}{v:List Bool}(h:qB I M n a0=some v):
  bQ 15 [(.agg (aX M r a0))] (.sl r (M.map bL v)) g nx:=by
 refine cC func15 c15 r abU af4 [] 22 ntmps15 [.tmp 2] hI fun call hc=>?_
 cbv
 refine lp h (fun(l1,z2)=>[(3,(.gs r (.l 20) (M.map bL l1))),(4,(vi z2))]) (fun _=>[]) fun jJ m1 aQ st h=>?_
 obtain⟨l1,z2⟩:=st
 dsimp only[km]at h
 cbv
 refine letE h fun n3 WX h=>⟨_,ak hI hM WX,?_⟩;cbv
 refine si h (fun h=>?_) fun h=>by cbv;cases h;exact fin
 cbv
 refine ae h fun x4 qh h=>⟨_,al hM qh rfl,?_⟩;cbv
 refine ae h fun y5 Dh h=>⟨_,_,_,us hc (vx hI hM Dh),?_⟩;cbv
 refine⟨_,bJ (enc:=bL) (x:=y5) hM (ah _) rfl,?_⟩;cbv
 refine ae h fun l6 LV h=>⟨_,aw (enc:=bL) hI hM LV (fun _=>rfl) rfl (fun _=>rfl),?_⟩;cbv
 exact bN (aQ _ _ h)
end Ab
