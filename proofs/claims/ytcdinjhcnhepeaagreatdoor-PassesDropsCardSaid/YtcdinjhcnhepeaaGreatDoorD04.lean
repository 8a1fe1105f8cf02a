/- PassesDrops holds of every core (no condition): a part of the proof: an abstract interpreter of the code that is proved sound, models of the functions, and laws of these models. -/
import Derived.Test.YtcdinjhcnhepeaaGreatDoorD02
import Derived.Test.YtcdinjhcnhepeaaGreatDoorD03
set_option linter.unusedVariables false
set_option linter.unusedSimpArgs false
namespace Ab
open Go Go.Proofs.Tryz
set_option maxHeartbeats 100000000
set_option maxRecDepth 100000
variable{I:Pr}(hI:I=al){M:Md}(hM:M= .al){n nx r s p q u rl:Nat}{g:Nat→Option Ob}
 include hI hM
theorem Cq{a0:ByteArray}{a1:ByteArray}{v:ByteArray}(h:jv I M n a0 a1=some v):
  bO 156 [(vs a0),(vs a1)] (vs v) g nx:=by
 obtain⟨r,_⟩: ∃x:Nat,x=0:=⟨_,rfl⟩
 refine yp func156 aqq r V6 Yz [] 43 ntmps156 [.tmp 4] hI (bk.cons (Uz r) (bk.cons (UA r) (bk.cons (UB r) (tF PP fD)))) 8 fun call hc=>?_
 cbv
 refine si h (fun h=>by cbv;cases h;exact fin) fun h=>?_
 cbv
 refine letE h fun n1 cH h=>⟨_,gf hI cH,?_⟩;cbv
 refine ab h fun x2 Of h=>⟨_,fun hp=>mY (aw Of hp.1),?_⟩;cbv
 refine si h (fun h=>?_) fun h=>?_
 ·cbv
  refine ab h fun x3 iJ h=>?_
  refine ab h fun y4 lb h=>?_
  refine ab h fun y5 HG h=>?_
  apply Exists.intro;refine⟨?_,_,rfl,?_⟩
  ·cbv
   refine⟨_,mY iJ,?_⟩;cbv
   refine⟨_,mY iJ,?_⟩;cbv
   refine⟨?_,trivial⟩
   refine⟨_,_,_,us hc (r9 hI hM lb),?_⟩;cbv
   refine⟨?_,trivial⟩
   refine⟨_,_,_,us hc (sY hI hM HG),?_⟩;cbv
   all_goals exact .inl rfl
  cbv;cases h;exact fin
 cbv
 refine ab h fun y6 yT h=>⟨_,_,_,us hc (sZ hI hM yT),?_⟩;cbv
 refine letE h fun l7 ql7 h=>⟨_,⟨rfl,iw (enc:=cA) hI hM ql7 rfl⟩,?_⟩;cbv
 refine ab h fun u8 Z3 h=>?_
 (first|refine⟨⟨rfl,rfl,rfl,aT hI hM Z3,rfl,(by have hq:=dz (enc:=cA) hM (fun _=>rfl) y6.1;rw[dU.eq_def]at hq;exact hq)⟩,?_⟩|refine⟨⟨aT hI hM Z3,(by have hq:=dz (enc:=cA) hM (fun _=>rfl) y6.1;rw[dU.eq_def]at hq;exact hq)⟩,?_⟩)
 cbv
 refine si h (fun h=>?_) fun h=>?_
 ·as_aux_lemma=>
   cbv
   refine lp h (fun z9=>[(0,(vs z9))]) (fun z9=>[]) fun ju m1 aS z9 h=>?_
   dsimp only[cE]at h
   cbv
   refine letE h fun Kh HV h=>⟨_,gf hI HV,?_⟩;cbv
   refine si h (fun h=>?_) fun h=>?_
   ·as_aux_lemma=>
     cbv
     refine⟨_,gf hI HV,?_⟩;cbv
     refine ab h fun FV xf h=>⟨_,mY xf,?_⟩;cbv
     refine ab h fun k12 air h=>?_
     (first|refine⟨_,⟨rfl,rfl,aM hI air⟩,?_⟩|refine⟨_,aM hI air,?_⟩)
     cbv
     refine ab h fun Bi xe h=>⟨_,_,rfl,bc hM xe,rfl,?_⟩;cbv
     refine si h (fun h=>?_) fun h=>?_
     ·cbv
      refine lp h (fun uP=>[(0,(vs uP))]) (fun uP=>[]) fun Bc m2 cI uP h=>?_
      dsimp only[bV]at h
      cbv
      refine letE h fun DZ DJ h=>⟨_,gf hI DJ,?_⟩;cbv
      refine si h (fun h=>?_) fun h=>by cbv;cases h;exact fin
      cbv
      refine ab h fun qS Aw h=>⟨_,mY Aw,?_⟩;cbv
      refine ab h fun TZ Ce h=>?_
      (first|refine⟨_,⟨rfl,rfl,aM hI Ce⟩,?_⟩|refine⟨_,aM hI Ce,?_⟩)
      cbv
      refine ab h fun Hd yU h=>⟨_,_,rfl,bc hM yU,rfl,?_⟩;cbv
      refine si h (fun h=>by cbv;cases h;exact fin) fun h=>?_
      cbv
      refine ab h fun s21 adn h=>⟨_,ED hI adn,?_⟩;cbv
      exact bN (cI _ _ h)
     cbv
     refine⟨_,gf hI HV,?_⟩;cbv
     refine ab h fun s22 am7 h=>⟨_,IJ hI am7,?_⟩;cbv
     exact bN (aS _ _ h)
   cbv
   refine lp h (fun uP=>[(0,(vs uP))]) (fun uP=>[]) fun Bc m2 cI uP h=>?_
   dsimp only[bV]at h
   cbv
   refine letE h fun DZ DJ h=>⟨_,gf hI DJ,?_⟩;cbv
   refine si h (fun h=>?_) fun h=>by cbv;cases h;exact fin
   cbv
   refine ab h fun qS Aw h=>⟨_,mY Aw,?_⟩;cbv
   refine ab h fun TZ Ce h=>?_
   (first|refine⟨_,⟨rfl,rfl,aM hI Ce⟩,?_⟩|refine⟨_,aM hI Ce,?_⟩)
   cbv
   refine ab h fun Hd yU h=>⟨_,_,rfl,bc hM yU,rfl,?_⟩;cbv
   refine si h (fun h=>by cbv;cases h;exact fin) fun h=>?_
   cbv
   refine ab h fun s21 adn h=>⟨_,ED hI adn,?_⟩;cbv
   exact bN (cI _ _ h)
 cbv
 cases h
 include hI hM
theorem se{a0:ByteArray}{v:Bool}(h:nG I M n a0=some v):
  bO 140 [(vs a0)] (vb v) g nx:=by
 obtain⟨r,_⟩: ∃x:Nat,x=0:=⟨_,rfl⟩
 refine cr func140 aqC r Wn YO [] 16 ntmps140 [.tmp 2] hI fun call hc=>?_
 cbv
 refine letE h fun n1 cH h=>⟨_,gf hI cH,?_⟩;cbv
 refine⟨_,gf hI cH,?_⟩;cbv
 refine ab h fun y2 rT h=>⟨_,fun hp=>us hc (Cq hI hM (aw rT hp.1)),?_⟩;cbv
 cbv;cases h;exact fin
 include hI hM
theorem zN{a0:Int}{v:Bool}(h:wv I M n a0=some v):
  bO 158 [(vi a0),(.aO rl [(.v dJ)] 0)] (vb v) g nx:=have _:=hM;by
 obtain⟨r,_⟩: ∃x:Nat,x=0:=⟨_,rfl⟩
 refine cr func158 akL r N3 O4 [] 8 ntmps158 [.tmp 3] hI fun call hc=>?_
 cbv
 cases h
 include hI hM
theorem qH{a0:List Int}{v:Int}(h:lz I M n a0=some v):
  bO 159 [(.sl r (M.map an a0)),(.fn (.func 158) [(.aO rl [(.v dJ)] 0)])] (vi v) g nx:=by
 refine cr func159 Zu r CN CY [] 19 ntmps159 [.tmp 4] hI fun call hc=>?_
 cbv
 refine letE h fun n1 cH h=>⟨_,ak hI hM cH,?_⟩;cbv
 refine lp h (fun z2=>[(8,(vi z2))]) (fun z2=>[]) fun ju m1 aS z2 h=>?_
 dsimp only[jL]at h
 cbv
 refine si h (fun h=>?_) fun h=>by cbv;cases h;exact fin
 cbv
 refine ab h fun x3 iJ h=>⟨_,ai hM iJ rfl,?_⟩;cbv
 refine ab h fun y4 lb h=>⟨_,_,_,us hc (zN hI hM lb),?_⟩;cbv
 refine si h (fun h=>by cbv;cases h;exact fin) fun h=>?_
 cbv
 exact bN (aS _ _ h)
 include hI hM
theorem ev_slices_ContainsFunc_int_v3{a0:List Int}{v:Bool}(h:qb I M n a0=some v):
  bO 148 [(.sl r (M.map an a0)),(.fn (.func 158) [(.aO rl [(.v dJ)] 0)])] (vb v) g nx:=by
 refine cr func148 Zw r CP C2 [] 9 ntmps148 [.tmp 4] hI fun call hc=>?_
 cbv
 refine ab h fun y1 cN h=>⟨_,_,_,us hc (qH hI hM cN),?_⟩;cbv
 cbv;cases h;exact fin
 include hI hM
theorem zM{a0:Int}{a1:List Bool}{v:Bool}(h:mP I M n a0 a1=some v):
  bO 158 [(vi a0),(.aO rl [(.sl r (M.map cA a1))] 0)] (vb v) g nx:=by
 refine cr func158 akL r N3 O4 [] 8 ntmps158 [.tmp 3] hI fun call hc=>?_
 cbv
 refine ab h fun x1 qx1 h=>⟨_,ai hM qx1 rfl,?_⟩;cbv
 cbv;cases h;exact fin
 include hI hM
theorem qG{a0:List Int}{aW:List Bool}{v:Int}(h:ly I M n a0 aW=some v):
  bO 159 [(.sl r (M.map an a0)),(.fn (.func 158) [(.aO rl [(.sl r (M.map cA aW))] 0)])] (vi v) g nx:=by
 refine cr func159 Zu r CN CY [] 19 ntmps159 [.tmp 4] hI fun call hc=>?_
 cbv
 refine letE h fun n1 cH h=>⟨_,ak hI hM cH,?_⟩;cbv
 refine lp h (fun z2=>[(8,(vi z2))]) (fun z2=>[]) fun ju m1 aS z2 h=>?_
 dsimp only[jK]at h
 cbv
 refine si h (fun h=>?_) fun h=>by cbv;cases h;exact fin
 cbv
 refine ab h fun x3 iJ h=>⟨_,ai hM iJ rfl,?_⟩;cbv
 refine ab h fun y4 lb h=>⟨_,_,_,us hc (zM hI hM lb),?_⟩;cbv
 refine si h (fun h=>by cbv;cases h;exact fin) fun h=>?_
 cbv
 exact bN (aS _ _ h)
 include hI hM
theorem oF{a0:List Int}{aW:List Bool}{v:Bool}(h:ep I M n a0 aW=some v):
  bO 148 [(.sl r (M.map an a0)),(.fn (.func 158) [(.aO rl [(.sl r (M.map cA aW))] 0)])] (vb v) g nx:=by
 refine cr func148 Zw r CP C2 [] 9 ntmps148 [.tmp 4] hI fun call hc=>?_
 cbv
 refine ab h fun y1 cN h=>⟨_,_,_,us hc (qG hI hM cN),?_⟩;cbv
 cbv;cases h;exact fin
 include hI hM
theorem ID{a0:List aL}{v:List Bool}(h:wZ I M n a0=some v):
  bO 147 [(.sl r (M.map (aZ M r) a0))] (.sl r (M.map cA v)) g nx:=by
 refine cr func147 aqv r Wg YG [3] 33 ntmps147 [.tmp 2] hI fun call hc=>?_
 cbv
 refine letE h fun n1 cH h=>⟨_,ak hI hM cH,?_⟩;cbv
 refine lp h (fun(l2,z3)=>[(9,(vi z3))]) (fun(l2,z3)=>[(3,.box [(.gs r (.c 3 0) (M.map cA l2))])]) fun ju m1 aS st h=>?_
 obtain⟨l2,z3⟩:=st
 dsimp only[oI]at h
 cbv
 refine si h (fun h=>?_) fun h=>by cbv;cases h;exact fin
 cbv
 refine ab h fun x4 qh h=>⟨_,ai hM qh rfl,?_⟩;cbv
 refine ab h fun y5 HG h=>⟨fun _=>rfl,(vb y5),fun hp=>fun ρ=>by cbv;exact us hc (oF hI hM (aw (aw HG hp.1) hp.2.1)),?_⟩;cbv
 refine⟨_,bJ (enc:=cA) (x:=(I.pick (I.aJ x4.kind 5) true (I.pick (I.aJ x4.kind 3) y5 false))) hM (af _) rfl,?_⟩;cbv
 refine ab h fun l6 PW h=>⟨_,au (enc:=cA) hI hM PW (fun _=>rfl) rfl (fun _=>rfl),?_⟩;cbv
 exact bN (aS _ _ h)
 include hI hM
theorem Cw{a0:Int}{a1:List Bool}{v:Bool}(h:pL I M n a0 a1=some v):
  bO 149 [(vi a0),(.aO r [(.sl r (M.map cA a1))] 0)] (vb v) g nx:=by
 refine cr func149 aqu r We YF [] 8 ntmps149 [.tmp 3] hI fun call hc=>?_
 cbv
 refine ab h fun x1 qx1 h=>⟨_,ai hM qx1 rfl,?_⟩;cbv
 cbv;cases h;exact fin
 include hI hM
theorem qF{a0:List Int}{aW:List Bool}{v:Int}(h:lx I M n a0 aW=some v):
  bO 159 [(.sl r (M.map an a0)),(.fn (.func 149) [(.aO r [(.sl r (M.map cA aW))] 0)])] (vi v) g nx:=by
 refine cr func159 Zu r CN CY [] 19 ntmps159 [.tmp 4] hI fun call hc=>?_
 cbv
 refine letE h fun n1 cH h=>⟨_,ak hI hM cH,?_⟩;cbv
 refine lp h (fun z2=>[(8,(vi z2))]) (fun z2=>[]) fun ju m1 aS z2 h=>?_
 dsimp only[jJ]at h
 cbv
 refine si h (fun h=>?_) fun h=>by cbv;cases h;exact fin
 cbv
 refine ab h fun x3 iJ h=>⟨_,ai hM iJ rfl,?_⟩;cbv
 refine ab h fun y4 lb h=>⟨_,_,_,us hc (Cw hI hM lb),?_⟩;cbv
 refine si h (fun h=>by cbv;cases h;exact fin) fun h=>?_
 cbv
 exact bN (aS _ _ h)
 include hI hM
theorem bP{a0:List Int}{aW:List Bool}{v:Bool}(h:eo I M n a0 aW=some v):
  bO 148 [(.sl r (M.map an a0)),(.fn (.func 149) [(.aO r [(.sl r (M.map cA aW))] 0)])] (vb v) g nx:=by
 refine cr func148 Zw r CP C2 [] 9 ntmps148 [.tmp 4] hI fun call hc=>?_
 cbv
 refine ab h fun y1 cN h=>⟨_,_,_,us hc (qF hI hM cN),?_⟩;cbv
 cbv;cases h;exact fin
 include hI hM
theorem Nw{a0:ah}{a1:aj}{a2:ae}{a3:Int}{v:Int}(h:zT I M n a0 a1 a2 a3=some v):
  bO 108 [(.agg (ba M r a0)),(.agg (ao M r a1)),(.agg (az M r a2)),(vi a3)] (vi v) g nx:=by
 refine yp func108 aqY r WR Zg [] 147 ntmps108 [.tmp 8] hI (bk.cons (Eo r) (tF PP fD)) 8 fun call hc=>?_
 cbv
 refine ab h fun x1 qx1 h=>⟨_,ai hM qx1 rfl,?_⟩;cbv
 apply Exists.intro;refine⟨?_,_,rfl,?_⟩
 ·cbv
  all_goals exact .inl rfl
 cbv
 refine⟨_,Oo (enc:=(Ey an an)) hM,?_⟩;cbv
 refine ab h fun l2 JV h=>⟨_,⟨rfl,Ov (f:=an) (g:=an) hI hM (n:=1) (fun _=>rfl) Ez JV rfl rfl⟩,?_⟩;cbv
 refine ab h fun l3 Og h=>⟨_,⟨rfl,Ov (f:=an) (g:=an) hI hM (n:=1) (fun _=>rfl) Ez Og rfl rfl⟩,?_⟩;cbv
 refine letE h fun x4 qh h=>⟨_,⟨rfl,rfl,rfl,TO (f:=an) (g:=an) hM (n:=1) (fun _=>rfl) Ez (av:=(fun y=>(vi y))) (fun _=>rfl) qh rfl (dC _)⟩,?_⟩;cbv
 refine si h (fun h=>by cbv;cases h;exact fin) fun h=>?_
 cbv
 refine ab h fun y5 HG h=>⟨_,fun hp=>us hc (se hI hM (aw (aw HG hp.1) hp.2.1)),?_⟩;cbv
 refine si h (fun h=>by cbv;cases h;exact fin) fun h=>?_
 cbv
 refine si h (fun h=>by cbv;cases h;exact fin) fun h=>?_
 cbv
 refine letE h fun n6 JQ h=>⟨_,ak hI hM JQ,?_⟩;cbv
 refine⟨_,ak hI hM JQ,?_⟩;cbv
 refine si h (fun h=>by cbv;cases h;exact fin) fun h=>?_
 cbv
 refine ab h fun y7 JL h=>⟨_,_,_,us hc (wg hI hM JL),?_⟩;cbv
 refine ab h fun y8 RR h=>⟨_,fun hp=>us hc (bQ hI hM (aw (aw RR hp.1) hp.2.1)),?_⟩;cbv
 refine si h (fun h=>by cbv;cases h;exact fin) fun h=>?_
 cbv
 refine si h (fun h=>by cbv;cases h;exact fin) fun h=>?_
 cbv
 refine ab h fun l9 Xn h=>⟨_,wu hI hM Xn (fun _=>rfl),?_⟩;cbv
 refine ab h fun qO oT h=>⟨_,_,_,us hc (ID hI hM oT),?_⟩;cbv
 refine ab h fun sm uQ h=>?_
 refine ab h fun u9 nf h=>?_
 refine ab h fun pW tM h=>?_
 apply Exists.intro;refine⟨?_,_,rfl,?_⟩
 ·cbv
  refine⟨?_,?_⟩
  ·refine⟨_,ak hI hM JQ,?_⟩;cbv
   refine⟨?_,?_⟩
   ·refine⟨?_,trivial⟩
    refine⟨_,_,_,us hc (bQ hI hM uQ),?_⟩;cbv
    refine⟨_,ai hM nf rfl,?_⟩;cbv
    refine⟨?_,trivial⟩
    refine⟨?_,trivial⟩
    refine⟨_,fun hp=>us hc (bP hI hM (aw tM hp.1)),?_⟩;cbv
    all_goals exact .inl rfl
   refine⟨?_,trivial⟩
   refine⟨_,_,_,us hc (bQ hI hM uQ),?_⟩;cbv
   refine⟨_,ai hM nf rfl,?_⟩;cbv
   refine⟨?_,trivial⟩
   refine⟨?_,trivial⟩
   refine⟨_,fun hp=>us hc (bP hI hM (aw tM hp.1)),?_⟩;cbv
   all_goals exact .inl rfl
  refine⟨?_,?_⟩
  ·refine⟨?_,?_⟩
   ·refine⟨_,ak hI hM JQ,?_⟩;cbv
    refine⟨?_,trivial⟩
    refine⟨_,_,_,us hc (bQ hI hM uQ),?_⟩;cbv
    refine⟨_,ai hM nf rfl,?_⟩;cbv
    refine⟨?_,trivial⟩
    refine⟨?_,trivial⟩
    refine⟨_,fun hp=>us hc (bP hI hM (aw tM hp.1)),?_⟩;cbv
    all_goals exact .inl rfl
   refine⟨?_,trivial⟩
   refine⟨_,_,_,us hc (bQ hI hM uQ),?_⟩;cbv
   refine⟨_,ak hI hM JQ,?_⟩;cbv
   refine⟨_,ai hM nf rfl,?_⟩;cbv
   refine⟨?_,trivial⟩
   refine⟨?_,trivial⟩
   refine⟨_,fun hp=>us hc (bP hI hM (aw tM hp.1)),?_⟩;cbv
   all_goals exact .inl rfl
  refine⟨?_,trivial⟩
  refine⟨_,_,_,us hc (bQ hI hM uQ),?_⟩;cbv
  refine⟨_,ak hI hM JQ,?_⟩;cbv
  refine⟨_,ai hM nf rfl,?_⟩;cbv
  refine⟨?_,trivial⟩
  refine⟨?_,trivial⟩
  refine⟨_,fun hp=>us hc (bP hI hM (aw tM hp.1)),?_⟩;cbv
  all_goals exact .inl rfl
 cbv
 exact si h (fun h=>by cbv;cases h;exact fin) fun h=>by cbv;cases h;exact fin
 include hI hM
theorem Cv{a0:ae}{v:Bool}(h:zR I M n a0=some v):
  bO 138 [(.agg (az M r a0))] (vb v) g nx:=by
 refine cr func138 aqE r Wp YQ [] 13 ntmps138 [.tmp 2] hI fun call hc=>?_
 cbv
 refine letE h fun n1 cH h=>⟨_,ak hI hM cH,?_⟩;cbv
 refine⟨_,ak hI hM cH,?_⟩;cbv
 cbv;cases h;exact fin
 include hI hM
theorem rh{a0:ae}{v:Bool}(h:gF I M n a0=some v):
  bO 155 [(.agg (az M r a0)),(.aO r [(.fn (.func 138) [])] 0)] (vb v) g nx:=by
 refine cr func155 Zv r CO CZ [] 8 ntmps155 [.tmp 3] hI fun call hc=>?_
 cbv
 refine ab h fun y1 cN h=>⟨_,_,_,us hc (Cv hI hM cN),?_⟩;cbv
 cbv;cases h;exact fin
 include hI hM
theorem oB{a0:List ae}{v:Int}(h:iR I M n a0=some v):
  bO 93 [(.sl r (M.map (az M r) a0)),(.fn (.func 155) [(.aO r [(.fn (.func 138) [])] 0)])] (vi v) g nx:=by
 refine cr func93 Zr r tE uA [] 19 ntmps93 [.tmp 4] hI fun call hc=>?_
 cbv
 refine letE h fun n1 cH h=>⟨_,ak hI hM cH,?_⟩;cbv
 refine lp h (fun z2=>[(8,(vi z2))]) (fun z2=>[]) fun ju m1 aS z2 h=>?_
 dsimp only[gS]at h
 cbv
 refine si h (fun h=>?_) fun h=>by cbv;cases h;exact fin
 cbv
 refine ab h fun x3 iJ h=>⟨_,ai hM iJ rfl,?_⟩;cbv
 refine ab h fun y4 lb h=>⟨_,_,_,us hc (rh hI hM lb),?_⟩;cbv
 refine si h (fun h=>by cbv;cases h;exact fin) fun h=>?_
 cbv
 exact bN (aS _ _ h)
 include hI hM
theorem mL{a0:List ae}{v:Bool}(h:fX I M n a0=some v):
  bO 35 [(.sl r (M.map (az M r) a0)),(.fn (.func 155) [(.aO r [(.fn (.func 138) [])] 0)])] (vb v) g nx:=by
 refine cr func35 c35 r xO yo [] 9 ntmps35 [.tmp 4] hI fun call hc=>?_
 cbv
 refine ab h fun y1 cN h=>⟨_,_,_,us hc (oB hI hM cN),?_⟩;cbv
 cbv;cases h;exact fin
 include hI hM
theorem tg{a0:List ae}{v:Bool}(h:jq I M n a0=some v):
  bO 137 [(.sl r (M.map (az M r) a0)),(.fn (.func 138) [])] (vb v) g nx:=by
 refine cr func137 Zx r CQ C3 [] 9 ntmps137 [.tmp 4] hI fun call hc=>?_
 cbv
 refine ab h fun y1 cN h=>⟨_,_,_,us hc (mL hI hM cN),?_⟩;cbv
 cbv;cases h;exact fin
 include hI hM
theorem Cu{a0:ae}{v:Bool}(h:zQ I M n a0=some v):
  bO 139 [(.agg (az M r a0))] (vb v) g nx:=have _:=hM;by
 refine cr func139 aqD r Wo YP [] 11 ntmps139 [.tmp 2] hI fun call hc=>?_
 cbv;cases h;exact fin
 include hI hM
theorem rf{a0:ae}{v:Bool}(h:gE I M n a0=some v):
  bO 155 [(.agg (az M r a0)),(.aO r [(.fn (.func 139) [])] 0)] (vb v) g nx:=by
 refine cr func155 Zv r CO CZ [] 8 ntmps155 [.tmp 3] hI fun call hc=>?_
 cbv
 refine ab h fun y1 cN h=>⟨_,_,_,us hc (Cu hI hM cN),?_⟩;cbv
 cbv;cases h;exact fin
 include hI hM
theorem oA{a0:List ae}{v:Int}(h:iQ I M n a0=some v):
  bO 93 [(.sl r (M.map (az M r) a0)),(.fn (.func 155) [(.aO r [(.fn (.func 139) [])] 0)])] (vi v) g nx:=by
 refine cr func93 Zr r tE uA [] 19 ntmps93 [.tmp 4] hI fun call hc=>?_
 cbv
 refine letE h fun n1 cH h=>⟨_,ak hI hM cH,?_⟩;cbv
 refine lp h (fun z2=>[(8,(vi z2))]) (fun z2=>[]) fun ju m1 aS z2 h=>?_
 dsimp only[gR]at h
 cbv
 refine si h (fun h=>?_) fun h=>by cbv;cases h;exact fin
 cbv
 refine ab h fun x3 iJ h=>⟨_,ai hM iJ rfl,?_⟩;cbv
 refine ab h fun y4 lb h=>⟨_,_,_,us hc (rf hI hM lb),?_⟩;cbv
 refine si h (fun h=>by cbv;cases h;exact fin) fun h=>?_
 cbv
 exact bN (aS _ _ h)
 include hI hM
theorem mK{a0:List ae}{v:Bool}(h:fW I M n a0=some v):
  bO 35 [(.sl r (M.map (az M r) a0)),(.fn (.func 155) [(.aO r [(.fn (.func 139) [])] 0)])] (vb v) g nx:=by
 refine cr func35 c35 r xO yo [] 9 ntmps35 [.tmp 4] hI fun call hc=>?_
 cbv
 refine ab h fun y1 cN h=>⟨_,_,_,us hc (oA hI hM cN),?_⟩;cbv
 cbv;cases h;exact fin
 include hI hM
theorem tf{a0:List ae}{v:Bool}(h:jo I M n a0=some v):
  bO 137 [(.sl r (M.map (az M r) a0)),(.fn (.func 139) [])] (vb v) g nx:=by
 refine cr func137 Zx r CQ C3 [] 9 ntmps137 [.tmp 4] hI fun call hc=>?_
 cbv
 refine ab h fun y1 cN h=>⟨_,_,_,us hc (mK hI hM cN),?_⟩;cbv
 cbv;cases h;exact fin
 include hI hM
theorem o8{a0:ae}{v:Bool}(h:jH I M n a0=some v):
  bO 133 [(.agg (az M r a0))] (vb v) g nx:=have _:=hM;by
 refine cr func133 aqI r Wt YU [] 6 ntmps133 [.tmp 2] hI fun call hc=>?_
 cbv;cases h;exact fin
 include hI hM
theorem yk{a0:ae}{v:Bool}(h:kZ I M n a0=some v):
  bO 141 [(.agg (az M r a0)),(.aO r [(.fn (.func 133) [])] 0)] (vb v) g nx:=by
 refine cr func141 aqB r Wm YN [] 12 ntmps141 [.tmp 3] hI fun call hc=>?_
 cbv
 refine ab h fun y1 cN h=>⟨_,_,_,us hc (o8 hI hM cN),?_⟩;cbv
 refine ab h fun y2 rT h=>⟨_,fun hp=>us hc (se hI hM (aw rT hp.1)),?_⟩;cbv
 cbv;cases h;exact fin
 include hI hM
theorem re{a0:ae}{v:Bool}(h:gD I M n a0=some v):
  bO 155 [(.agg (az M r a0)),(.aO r [(.fn (.func 141) [(.aO r [(.fn (.func 133) [])] 0)])] 0)] (vb v) g nx:=by
 refine cr func155 Zv r CO CZ [] 8 ntmps155 [.tmp 3] hI fun call hc=>?_
 cbv
 refine ab h fun y1 cN h=>⟨_,_,_,us hc (yk hI hM cN),?_⟩;cbv
 cbv;cases h;exact fin
 include hI hM
theorem oy{a0:List ae}{v:Int}(h:iP I M n a0=some v):
  bO 93 [(.sl r (M.map (az M r) a0)),(.fn (.func 155) [(.aO r [(.fn (.func 141) [(.aO r [(.fn (.func 133) [])] 0)])] 0)])] (vi v) g nx:=by
 refine cr func93 Zr r tE uA [] 19 ntmps93 [.tmp 4] hI fun call hc=>?_
 cbv
 refine letE h fun n1 cH h=>⟨_,ak hI hM cH,?_⟩;cbv
 refine lp h (fun z2=>[(8,(vi z2))]) (fun z2=>[]) fun ju m1 aS z2 h=>?_
 dsimp only[gQ]at h
 cbv
 refine si h (fun h=>?_) fun h=>by cbv;cases h;exact fin
 cbv
 refine ab h fun x3 iJ h=>⟨_,ai hM iJ rfl,?_⟩;cbv
 refine ab h fun y4 lb h=>⟨_,_,_,us hc (re hI hM lb),?_⟩;cbv
 refine si h (fun h=>by cbv;cases h;exact fin) fun h=>?_
 cbv
 exact bN (aS _ _ h)
 include hI hM
theorem mJ{a0:List ae}{v:Bool}(h:fV I M n a0=some v):
  bO 35 [(.sl r (M.map (az M r) a0)),(.fn (.func 155) [(.aO r [(.fn (.func 141) [(.aO r [(.fn (.func 133) [])] 0)])] 0)])] (vb v) g nx:=by
 refine cr func35 c35 r xO yo [] 9 ntmps35 [.tmp 4] hI fun call hc=>?_
 cbv
 refine ab h fun y1 cN h=>⟨_,_,_,us hc (oy hI hM cN),?_⟩;cbv
 cbv;cases h;exact fin
 include hI hM
theorem td{a0:List ae}{v:Bool}(h:jn I M n a0=some v):
  bO 137 [(.sl r (M.map (az M r) a0)),(.fn (.func 141) [(.aO r [(.fn (.func 133) [])] 0)])] (vb v) g nx:=by
 refine cr func137 Zx r CQ C3 [] 9 ntmps137 [.tmp 4] hI fun call hc=>?_
 cbv
 refine ab h fun y1 cN h=>⟨_,_,_,us hc (mJ hI hM cN),?_⟩;cbv
 cbv;cases h;exact fin
 include hI hM
theorem ra{a0:ae}{v:Bool}(h:gC I M n a0=some v):
  bO 155 [(.agg (az M r a0)),(.aO r [(.fn (.func 133) [])] 0)] (vb v) g nx:=by
 refine cr func155 Zv r CO CZ [] 8 ntmps155 [.tmp 3] hI fun call hc=>?_
 cbv
 refine ab h fun y1 cN h=>⟨_,_,_,us hc (o8 hI hM cN),?_⟩;cbv
 cbv;cases h;exact fin
 include hI hM
theorem ov{a0:List ae}{v:Int}(h:iN I M n a0=some v):
  bO 93 [(.sl r (M.map (az M r) a0)),(.fn (.func 155) [(.aO r [(.fn (.func 133) [])] 0)])] (vi v) g nx:=by
 refine cr func93 Zr r tE uA [] 19 ntmps93 [.tmp 4] hI fun call hc=>?_
 cbv
 refine letE h fun n1 cH h=>⟨_,ak hI hM cH,?_⟩;cbv
 refine lp h (fun z2=>[(8,(vi z2))]) (fun z2=>[]) fun ju m1 aS z2 h=>?_
 dsimp only[gO]at h
 cbv
 refine si h (fun h=>?_) fun h=>by cbv;cases h;exact fin
 cbv
 refine ab h fun x3 iJ h=>⟨_,ai hM iJ rfl,?_⟩;cbv
 refine ab h fun y4 lb h=>⟨_,_,_,us hc (ra hI hM lb),?_⟩;cbv
 refine si h (fun h=>by cbv;cases h;exact fin) fun h=>?_
 cbv
 exact bN (aS _ _ h)
 include hI hM
theorem mH{a0:List ae}{v:Bool}(h:fU I M n a0=some v):
  bO 35 [(.sl r (M.map (az M r) a0)),(.fn (.func 155) [(.aO r [(.fn (.func 133) [])] 0)])] (vb v) g nx:=by
 refine cr func35 c35 r xO yo [] 9 ntmps35 [.tmp 4] hI fun call hc=>?_
 cbv
 refine ab h fun y1 cN h=>⟨_,_,_,us hc (ov hI hM cN),?_⟩;cbv
 cbv;cases h;exact fin
 include hI hM
theorem ta{a0:List ae}{v:Bool}(h:jm I M n a0=some v):
  bO 137 [(.sl r (M.map (az M r) a0)),(.fn (.func 133) [])] (vb v) g nx:=by
 refine cr func137 Zx r CQ C3 [] 9 ntmps137 [.tmp 4] hI fun call hc=>?_
 cbv
 refine ab h fun y1 cN h=>⟨_,_,_,us hc (mH hI hM cN),?_⟩;cbv
 cbv;cases h;exact fin
 include hI hM
theorem yj{a0:ae}{a2:aj}{v:Bool}(h:kY I M n a0 a2=some v):
  bO 142 [(.agg (az M r a0)),(.aO r [(.fn (.func 133) [])] 0),(.aO r (ao M r a2) 0)] (vb v) g nx:=by
 refine cr func142 aqA r Wl YM [] 19 ntmps142 [.tmp 4] hI fun call hc=>?_
 cbv
 refine ab h fun y1 cN h=>⟨_,_,_,us hc (o8 hI hM cN),?_⟩;cbv
 refine letE h fun n2 oQ h=>⟨_,ak hI hM oQ,?_⟩;cbv
 cbv;cases h;exact fin
 include hI hM
theorem ox{a0:List ae}{ri:aj}{v:Int}(h:iO I M n a0 ri=some v):
  bO 93 [(.sl r (M.map (az M r) a0)),(.fn (.func 142) [(.aO r [(.fn (.func 133) [])] 0),(.aO r (ao M r ri) 0)])] (vi v) g nx:=by
 refine cr func93 Zr r tE uA [] 19 ntmps93 [.tmp 4] hI fun call hc=>?_
 cbv
 refine letE h fun n1 cH h=>⟨_,ak hI hM cH,?_⟩;cbv
 refine lp h (fun z2=>[(8,(vi z2))]) (fun z2=>[]) fun ju m1 aS z2 h=>?_
 dsimp only[gP]at h
 cbv
 refine si h (fun h=>?_) fun h=>by cbv;cases h;exact fin
 cbv
 refine ab h fun x3 iJ h=>⟨_,ai hM iJ rfl,?_⟩;cbv
 refine ab h fun y4 lb h=>⟨_,_,_,us hc (yj hI hM lb),?_⟩;cbv
 refine si h (fun h=>by cbv;cases h;exact fin) fun h=>?_
 cbv
 exact bN (aS _ _ h)
 include hI hM
theorem mI{a0:List ae}{ri:aj}{v:Bool}(h:dD I M n a0 ri=some v):
  bO 35 [(.sl r (M.map (az M r) a0)),(.fn (.func 142) [(.aO r [(.fn (.func 133) [])] 0),(.aO r (ao M r ri) 0)])] (vb v) g nx:=by
 refine cr func35 c35 r xO yo [] 9 ntmps35 [.tmp 4] hI fun call hc=>?_
 cbv
 refine ab h fun y1 cN h=>⟨_,_,_,us hc (ox hI hM cN),?_⟩;cbv
 cbv;cases h;exact fin
 include hI hM
theorem we{a0:ae}{a1:ae}{v:Bool}(h:mR I M n a0 a1=some v):
  bO 135 [(.agg (az M r a0)),(.aO r (az M r a1) 0)] (vb v) g nx:=have _:=hM;by
 refine cr func135 aqG r Wr YS [] 16 ntmps135 [.tmp 3] hI fun call hc=>?_
 cbv;cases h;exact fin
 include hI hM
theorem ot{a0:List ae}{aW:ae}{v:Int}(h:ej I M n a0 aW=some v):
  bO 93 [(.sl r (M.map (az M r) a0)),(.fn (.func 135) [(.aO r (az M r aW) 0)])] (vi v) g nx:=by
 refine cr func93 Zr r tE uA [] 19 ntmps93 [.tmp 4] hI fun call hc=>?_
 cbv
 refine letE h fun n1 cH h=>⟨_,ak hI hM cH,?_⟩;cbv
 refine lp h (fun z2=>[(8,(vi z2))]) (fun z2=>[]) fun ju m1 aS z2 h=>?_
 dsimp only[gL]at h
 cbv
 refine si h (fun h=>?_) fun h=>by cbv;cases h;exact fin
 cbv
 refine ab h fun x3 iJ h=>⟨_,ai hM iJ rfl,?_⟩;cbv
 refine ab h fun y4 lb h=>⟨_,_,_,us hc (we hI hM lb),?_⟩;cbv
 refine si h (fun h=>by cbv;cases h;exact fin) fun h=>?_
 cbv
 exact bN (aS _ _ h)
 include hI hM
theorem wc{a0:ae}{a1:ae}{v:Bool}(h:mQ I M n a0 a1=some v):
  bO 136 [(.agg (az M r a0)),(.aO r (az M r a1) 0)] (vb v) g nx:=have _:=hM;by
 refine cr func136 aqF r Wq YR [] 16 ntmps136 [.tmp 3] hI fun call hc=>?_
 cbv;cases h;exact fin
 include hI hM
theorem oq{a0:List ae}{aW:ae}{v:Int}(h:ei I M n a0 aW=some v):
  bO 93 [(.sl r (M.map (az M r) a0)),(.fn (.func 136) [(.aO r (az M r aW) 0)])] (vi v) g nx:=by
 refine cr func93 Zr r tE uA [] 19 ntmps93 [.tmp 4] hI fun call hc=>?_
 cbv
 refine letE h fun n1 cH h=>⟨_,ak hI hM cH,?_⟩;cbv
 refine lp h (fun z2=>[(8,(vi z2))]) (fun z2=>[]) fun ju m1 aS z2 h=>?_
 dsimp only[gJ]at h
 cbv
 refine si h (fun h=>?_) fun h=>by cbv;cases h;exact fin
 cbv
 refine ab h fun x3 iJ h=>⟨_,ai hM iJ rfl,?_⟩;cbv
 refine ab h fun y4 lb h=>⟨_,_,_,us hc (wc hI hM lb),?_⟩;cbv
 refine si h (fun h=>by cbv;cases h;exact fin) fun h=>?_
 cbv
 exact bN (aS _ _ h)
 include hI hM
theorem ym{a0:ae}{a1:aj}{v:Bool}(h:hZ I M n a0 a1=some v):
  bO 134 [(.agg (az M r a0)),(.aO r (ao M r a1) 0)] (vb v) g nx:=by
 refine cr func134 aqH r Ws YT [] 19 ntmps134 [.tmp 3] hI fun call hc=>?_
 cbv
 refine ab h fun y1 cN h=>⟨_,_,_,us hc (ot hI hM cN),?_⟩;cbv
 refine ab h fun l2 JV h=>⟨_,Zo hI hM JV (fun _=>rfl),?_⟩;cbv
 refine ab h fun y3 HJ h=>⟨_,_,_,us hc (oq hI hM HJ),?_⟩;cbv
 cbv;cases h;exact fin
 include hI hM
theorem ou{a0:List ae}{aW:aj}{v:Int}(h:iM I M n a0 aW=some v):
  bO 93 [(.sl r (M.map (az M r) a0)),(.fn (.func 134) [(.aO r (ao M r aW) 0)])] (vi v) g nx:=by
 refine cr func93 Zr r tE uA [] 19 ntmps93 [.tmp 4] hI fun call hc=>?_
 cbv
 refine letE h fun n1 cH h=>⟨_,ak hI hM cH,?_⟩;cbv
 refine lp h (fun z2=>[(8,(vi z2))]) (fun z2=>[]) fun ju m1 aS z2 h=>?_
 dsimp only[gM]at h
 cbv
 refine si h (fun h=>?_) fun h=>by cbv;cases h;exact fin
 cbv
 refine ab h fun x3 iJ h=>⟨_,ai hM iJ rfl,?_⟩;cbv
 refine ab h fun y4 lb h=>⟨_,_,_,us hc (ym hI hM lb),?_⟩;cbv
 refine si h (fun h=>by cbv;cases h;exact fin) fun h=>?_
 cbv
 exact bN (aS _ _ h)
 include hI hM
theorem mG{a0:List ae}{aW:aj}{v:Bool}(h:cD I M n a0 aW=some v):
  bO 35 [(.sl r (M.map (az M r) a0)),(.fn (.func 134) [(.aO r (ao M r aW) 0)])] (vb v) g nx:=by
 refine cr func35 c35 r xO yo [] 9 ntmps35 [.tmp 4] hI fun call hc=>?_
 cbv
 refine ab h fun y1 cN h=>⟨_,_,_,us hc (ou hI hM cN),?_⟩;cbv
 cbv;cases h;exact fin
 include hI hM
theorem FH{a0:aj}{v:Int}(h:uB I M n a0=some v):
  bO 106 [(.agg (ao M r a0))] (vi v) g nx:=by
 refine cr func106 aqZ r WT Zi [] 71 ntmps106 [.tmp 2] hI fun call hc=>?_
 cbv
 refine letE h fun n1 cH h=>⟨_,ak hI hM cH,?_⟩;cbv
 refine⟨_,ak hI hM cH,?_⟩;cbv
 refine ab h fun y2 rT h=>⟨_,fun hp=>us hc (tg hI hM (aw rT hp.1)),?_⟩;cbv
 refine si h (fun h=>by cbv;cases h;exact fin) fun h=>?_
 cbv
 refine ab h fun y3 HJ h=>⟨_,fun hp=>us hc (tf hI hM (aw HJ hp.1)),?_⟩;cbv
 refine si h (fun h=>by cbv;cases h;exact fin) fun h=>?_
 cbv
 refine ab h fun y4 lb h=>⟨_,_,_,us hc (se hI hM lb),?_⟩;cbv
 refine ab h fun y5 HG h=>⟨_,fun hp=>us hc (td hI hM (aw HG hp.1)),?_⟩;cbv
 refine si h (fun h=>by cbv;cases h;exact fin) fun h=>?_
 cbv
 refine ab h fun y6 yT h=>⟨_,_,_,us hc (mI hI hM yT),?_⟩;cbv
 refine si h (fun h=>by cbv;cases h;exact fin) fun h=>?_
 cbv
 refine ab h fun y7 JL h=>⟨_,fun hp=>us hc (ta hI hM (aw JL hp.1)),?_⟩;cbv
 refine si h (fun h=>by cbv;cases h;exact fin) fun h=>?_
 cbv
 refine ab h fun y8 RR h=>⟨_,_,_,us hc (mG hI hM RR),?_⟩;cbv
 exact si h (fun h=>by cbv;cases h;exact fin) fun h=>by cbv;cases h;exact fin
 include hI hM
theorem cT{a0:ah}{v:Int}(h:c4 I M n a0=some v):
  bO 49 [(.agg (ba M r a0))] (vi v) g nx:=by
 refine yp func49 c49 r ab1 af7 [] 95 ntmps49 [.tmp 2] hI (bk.cons (Eo r) (tF PP fD)) 8 fun call hc=>?_
 cbv
 refine letE h fun n1 cH h=>⟨_,ak hI hM cH,?_⟩;cbv
 refine⟨_,ak hI hM cH,?_⟩;cbv
 refine si h (fun h=>by cbv;cases h;exact fin) fun h=>?_
 cbv
 refine⟨_,ak hI hM cH,?_⟩;cbv
 refine lp h (fun z2=>[(27,(vi z2))]) (fun z2=>[]) fun ju m1 aS z2 h=>?_
 dsimp only[mX]at h
 cbv
 refine si h (fun h=>?_) fun h=>?_
 ·cbv
  refine ab h fun x3 iJ h=>⟨_,ai hM iJ rfl,?_⟩;cbv
  refine ab h fun y4 lb h=>⟨_,_,_,us hc (FH hI hM lb),?_⟩;cbv
  refine si h (fun h=>by cbv;cases h;exact fin) fun h=>?_
  cbv
  exact bN (aS _ _ h)
 cbv
 refine letE h fun n6 JQ h=>⟨_,ak hI hM JQ,?_⟩;cbv
 refine lp h (fun z7=>[(40,(vi z7))]) (fun z7=>[]) fun Bc m2 cI z7 h=>?_
 dsimp only[mW]at h
 cbv
 refine si h (fun h=>?_) fun h=>?_
 ·cbv
  refine ab h fun x8 R3 h=>⟨_,ai hM R3 rfl,?_⟩;cbv
  refine ab h fun j9 hj h=>?_
  refine aX none [(51,(vb j9)),(6,.any),(7,.any)] [] g nx ?_ ?_
  ·replace h:=hj
   cbv
   refine⟨?_,?_⟩
   ·refine⟨?_,trivial⟩
    refine ab h fun qO oT h=>⟨_,_,_,us hc (bQ hI hM oT),?_⟩;cbv
    cases h
    first|exact Or.inl rfl|exact bB
   refine⟨?_,trivial⟩
   refine⟨?_,trivial⟩
   refine⟨?_,trivial⟩
   refine ab h fun qO oT h=>⟨_,_,_,us hc (bQ hI hM oT),?_⟩;cbv
   cases h
   first|exact Or.inl rfl|exact bB
  clear hj
  cbv
  refine si h (fun h=>by cbv;cases h;exact fin) fun h=>?_
  cbv
  exact bN (cI _ _ h)
 cbv
 refine letE h fun Vw SE h=>⟨_,ak hI hM SE,?_⟩;cbv
 refine lp h (fun nu=>[(56,(vi nu))]) (fun nu=>[]) fun NJ m3 iI nu h=>?_
 dsimp only[mV]at h
 cbv
 refine si h (fun h=>?_) fun h=>by cbv;cases h;exact fin
 cbv
 refine ab h fun vf HR h=>⟨_,ai hM HR rfl,?_⟩;cbv
 refine letE h fun XB adH h=>⟨_,ak hI hM adH,?_⟩;cbv
 refine lp h (fun jW=>[(57,.any),(63,(vi jW))]) (fun jW=>[]) fun Q5 m4 qC jW h=>?_
 dsimp only[mU]at h
 cbv
 refine si h (fun h=>?_) fun h=>?_
 ·as_aux_lemma=>
   cbv
   refine ab h fun qS Aw h=>⟨_,ai hM Aw rfl,?_⟩;cbv
   refine letE h fun QO SA h=>⟨_,ak hI hM SA,?_⟩;cbv
   refine lp h (fun eh=>[(70,(vi eh))]) (fun eh=>[]) fun Q4 m5 qB eh h=>?_
   dsimp only[mT]at h
   cbv
   refine si h (fun h=>?_) fun h=>?_
   ·cbv
    refine ab h fun NT Mk h=>⟨_,_,_,us hc (Nw hI hM Mk),?_⟩;cbv
    refine si h (fun h=>by cbv;cases h;exact fin) fun h=>?_
    cbv
    exact bN (qB _ _ h)
   cbv
   refine letE h fun TB PU h=>⟨_,ak hI hM PU,?_⟩;cbv
   refine si h (fun h=>by cbv;cases h;exact fin) fun h=>?_
   cbv
   exact bN (qC _ _ h)
 cbv
 exact bN (iI _ _ h)
 include hI hM
theorem ev_passes_work_slots_v1{nN:ByteArray}{nM:Int}{nL:Int}{a1:List Int}{v:List Int}(h:vy I M n nN nM nL a1=some v):
  bO 55 [(.aO rl [(vs nN),(vi nM),(.v dJ),(vi nL),(.v dJ),(.v .nilFunc)] 0),(.sl p (M.map an a1))] (.sl r (M.map an v)) g nx:=by
 refine cr func55 c55 r xN yn [] 26 ntmps55 [.tmp 4] hI fun call hc=>?_
 cbv
 refine letE h fun n1 cH h=>⟨_,ak hI hM cH,?_⟩;cbv
 refine lp h (fun(z2,l3)=>[(5,(.gs r (.l 23) (M.map an l3))),(10,(vi z2))]) (fun _=>[]) fun ju m1 aS st h=>?_
 obtain⟨z2,l3⟩:=st
 dsimp only[mu]at h
 cbv
 refine si h (fun h=>?_) fun h=>by cbv;cases h;exact fin
 cbv
 refine ab h fun x4 qh h=>⟨_,ai hM qh rfl,?_⟩;cbv
 cases h
 include hI hM
theorem aC{nN:ByteArray}{nM:Int}{ER:List aL}{nL:Int}{nK:List Int}{a1:List Int}{v:List Int}(h:bw I M n nN nM ER nL nK a1=some v):
  bO 55 [(.aO rl [(vs nN),(vi nM),(.sl r (M.map (aZ M r) ER)),(vi nL),(.sl r (M.map an nK)),(.v .nilFunc)] 0),(.sl p (M.map an a1))] (.sl r (M.map an v)) g nx:=by
 refine cr func55 c55 r xN yn [] 26 ntmps55 [.tmp 4] hI fun call hc=>?_
 cbv
 refine letE h fun n1 cH h=>⟨_,ak hI hM cH,?_⟩;cbv
 refine lp h (fun(z2,l3)=>[(5,(.gs r (.l 23) (M.map an l3))),(10,(vi z2))]) (fun _=>[]) fun ju m1 aS st h=>?_
 obtain⟨z2,l3⟩:=st
 dsimp only[cW]at h
 cbv
 refine si h (fun h=>?_) fun h=>by cbv;cases h;exact fin
 cbv
 refine ab h fun x4 qh h=>⟨_,ai hM qh rfl,?_⟩;cbv
 refine ab h fun x5 rU h=>⟨_,ai hM rU rfl,?_⟩;cbv
 refine⟨_,bJ (enc:=an) (x:=x5) hM (af _) rfl,?_⟩;cbv
 refine ab h fun l6 PW h=>⟨_,au (enc:=an) hI hM PW (fun _=>rfl) rfl (fun _=>rfl),?_⟩;cbv
 exact bN (aS _ _ h)
end Ab
namespace Ab
open Go
set_option maxHeartbeats 4000000
set_option maxRecDepth 100000
abbrev bW(M:Md)(r:Nat)(br:ae)(m:Nat)(o6:List AV)(l:List Bool):List (Nat×Ob):=
 [(3,.box [.ia (.s 12) m]),(4,.box [.fn (.func 111) [.ptr (.s 3) 0,.aO r (az M r br) 0,.ptr (.s 4) 0]]),(6,.box o6),(12,.arr 1 (M.map cA l))]
structure Hok(M:Md)(r:Nat)(br:ae)(m:Nat)(o6:List AV)(g:Nat→Option Ob)(nx:Nat)(t:List (Nat×AV))(up:List Fr):Prop where
 ok: ∀l,Oi ⟨36,t,bW M r br m o6 l,[],g,nx,up,false⟩=true
 t:wkT t t
 u:wkU up up
abbrev Hand:=YH→Nat→List AV→St→bf→Prop
def NK(I:Pr)(M:Md)(n:Nat)(r:Nat)(br:ae)(m:Nat)(o6:List AV)(g:Nat→Option Ob)(nx:Nat)(k:Nat)(J:Hand):Prop:=
 ∀(yl:YH) (l:List Bool) (x:Int) (l':List Bool) (t:List (Nat×AV)) (up:List Fr) (K:bf),Fs I M n br m k l x=some l'→Hok M r br m o6 g nx t up→
  K (.fT []) ⟨36,t,bW M r br m o6 l',[],g,nx,up,false⟩→J yl 111 [vi x,.ptr (.s 3) 0,.aO r (az M r br) 0,.ptr (.s 4) 0] ⟨36,t,bW M r br m o6 l,[],g,nx,up,false⟩ K
theorem DU{M:Md}{r:Nat}{br:ae}{m:Nat}{o6:List AV}{g:Nat→Option Ob}{nx:Nat}{t0 t1:List (Nat×AV)}{up0:List Fr}{l:List Bool}(h1:Ts (bW M r br m o6 l) t1=true)
  (h:Oi ⟨36,t0,bW M r br m o6 l,[],g,nx,up0,false⟩=true):Oi ⟨36,t1,bW M r br m o6 l,[],g,nx,⟨36,t0⟩::up0,false⟩=true:=by
 simp only[Oi,okU,Bool.and_eq_true]at h ⊢
 exact⟨h1,h.2.1,h.1,h.2.2⟩
theorem Zy{I:Pr}(hI:I=al){M:Md}(hM:M= .al){n r:Nat}{br:ae}{m:Nat}{o6:List AV}{g:Nat→Option Ob}{nx:Nat}{k:Nat}{call:oO}(bb:Nat)(J JR:Hand)(yl:YH)
  (hJ:NK I M n r br m o6 g nx k J){l:List Bool}{x:Int}{l':List Bool}{t0:List (Nat×AV)}{up0:List Fr}{K:bf}(h:Fs I M n br m (k+1) l x=some l')(jU:Hok M r br m o6 g nx t0 up0)
  (hK:K (.fT []) ⟨36,t0,bW M r br m o6 l',[],g,nx,up0,false⟩):
  pY {I:=I,L:=L,ρ:=r,sh:=[],tree:=N4,call:=call,base:=bb,op:=[],dead:=O5,sR:=ue (uI 111 (KZ r) fun _=>none),inl:=J,AQ:=JR,yl:=yl,cl:=fD,keys:=kN,eqs:=sf} agA
   (Ew 36 [vi x,.ptr (.s 3) 0,.aO r (az M r br) 0,.ptr (.s 4) 0] ⟨36,t0,bW M r br m o6 l,[],g,nx,up0,false⟩)
   (XV I L [] (bW M r br m o6 l) K):=by
 obtain⟨wrap,add,sub,mul,aJ,aV,pK,seq,cat,beq,not,pick,Qf,imax,eR,Lb,app,EB,II,flat,chunk,rep,set,room,within,nat,D0,nq,nr⟩:=I
 obtain⟨map,ln⟩:=M
 dsimp only[Fs]at h
 cbv
 refine ab h fun k1 qk1 h=>?_
 refine⟨_,aM hI qk1,?_⟩
 cbv
 refine ab h fun x2 Of h=>?_
 refine⟨_,_,rfl,bc hM Of,rfl,?_⟩
 cbv
 refine CR h rfl (fun h=>?_) (fun h=>?_)
 ·cbv
  obtain rfl:=Option.some.inj h
  have e:=jU.ok l
  cbv at e
  refine⟨by rw[e],?_⟩
  cbv
  exact hK
 ·cbv
  refine ab h fun l3 Og h=>?_
  refine⟨_,aM hI qk1,?_⟩
  cbv
  refine⟨_,cF hI hM Of Og (by decide) rfl rfl,?_⟩
  cbv
  refine ab h fun x4 qh h=>?_
  refine⟨_,ai hM qh rfl,?_⟩
  cbv
  refine CR h rfl (fun h=>?_) (fun h=>?_)
  ·cbv
   refine⟨_,ai hM qh rfl,?_⟩
   cbv
   refine letE h fun n5 Xm h=>?_
   refine⟨_,ak hI hM Xm,?_⟩
   cbv
   refine step_loop h none (fun st=>[(28,vi st.2)]) (fun st=>[(12,.arr 1 (map cA st.1))]) (fun _=>g) (fun _=>nx) ?_ (fun R1 m1 hR1 st h=>?_)
   ·refine⟨rfl,rfl,rfl,rfl,rfl,?_,⟨af _,af _,af _,⟨rfl,rfl⟩,trivial⟩,⟨⟨rfl,jU.t⟩,jU.u⟩,DU rfl (jU.ok l3),rfl⟩
    cbv
    all_goals(repeat' apply And.intro)
    all_goals first|trivial|rfl|exact(aE hM)
   ·obtain⟨l6,z7⟩:=st
    cbv
    refine CR h rfl (fun h=>?_) (fun h=>?_)
    ·cbv
     refine ab h fun x8 R3 h=>?_
     refine⟨_,ai hM R3 rfl,?_⟩
     cbv
     refine ab h fun l9 Xn h=>?_
     refine hJ _ l6 x8 l9 _ _ _ Xn ⟨fun l=>DU rfl (jU.ok l),?_,⟨⟨rfl,jU.t⟩,jU.u⟩⟩ ?_
     ·cbv
      all_goals(repeat' apply And.intro)
      all_goals first|trivial|rfl|exact(aE hM)
     ·cbv
      refine hR1 (l9,_) _ h ?_
      refine⟨rfl,rfl,rfl,rfl,rfl,?_,⟨af _,af _,af _,⟨rfl,rfl⟩,trivial⟩,⟨⟨rfl,jU.t⟩,jU.u⟩,DU rfl (jU.ok l9),rfl⟩
      cbv
      all_goals(repeat' apply And.intro)
      all_goals first|trivial|rfl|exact(aE hM)
    ·cbv
     obtain rfl:=Option.some.inj h
     have e:=jU.ok l6
     cbv at e
     refine⟨by rw[e],?_⟩
     cbv
     exact hK
  ·cbv
   obtain rfl:=Option.some.inj h
   have e:=jU.ok l3
   cbv at e
   refine⟨by rw[e],?_⟩
   cbv
   exact hK
theorem Tx{I:Pr}(hI:I=al){M:Md}(hM:M= .al){n r:Nat}{br:ae}{m:Nat}{o6:List AV}{g:Nat→Option Ob}{nx:Nat}{call:oO}{tr:Nat→Tree}{dd:Nat→List Nat}{op:List Nat}:
  ∀(k base:Nat),NK I M n r br m o6 g nx k (m0 {I:=I,L:=L,ρ:=r,sh:=[],tree:=tr,call:=call,op:=op,dead:=dd,cl:=fD,keys:=kN,eqs:=sf} (uI 111 (KZ r) fun _=>none) k base).inl
 |0,_=>fun yl l x l' t up K h _ _=>by cases h
 |k+1,base=>fun yl l x l' t up K h jU hK=>by
  have ih:=Tx hI hM (n:=n) (r:=r) (br:=br) (m:=m) (o6:=o6) (g:=g) (nx:=nx) (call:=call) (tr:=tr) (dd:=dd) (op:=op) k (base*256+111)
  have hb:=Zy hI hM (call:=call) ((base*256+111)*1000) _ (m0 {I:=I,L:=L,ρ:=r,sh:=[],tree:=tr,call:=call,op:=op,dead:=dd,cl:=fD,keys:=kN,eqs:=sf} (uI 111 (KZ r) fun _=>none) k (base*256+111)).AQ yl ih h jU hK
  cases k with
  |zero=>exact hb
  |succ k=>exact hb
theorem aiz{C0:dj}{T:Nat→Option FI}{n:Nat}{c:Code}{s:St}{rs:List ResultVar}{R:AV→(Nat→Option Ob)→Nat→Prop}
  (h: ∀(J JR:Hand),J=(m0 C0 T n 0).inl→pY {C0 with base:=0,sR:=ue T,inl:=J,AQ:=JR,yl:=fun _ _ _ _=>False} c s (post {C0 with base:=0,sR:=ue T,inl:=J,AQ:=JR,yl:=fun _ _ _ _=>False} rs R)):
  pY (m0 C0 T n 0) c s (post (m0 C0 T n 0) rs R):=by
 have:=h _ (m0 C0 T n 0).AQ rfl
 cases n<;>exact this
theorem aiF{I:Pr}(hI:I=al){M:Md}(hM:M= .al){n r:Nat}{br:ae}{m:Nat}{o6:List AV}{g:Nat→Option Ob}{nx:Nat}{call:oO}{tr:Nat→Tree}{dd:Nat→List Nat}{op:List Nat}{J:Hand}
  (hJ:J=(m0 {I:=I,L:=L,ρ:=r,sh:=[],tree:=tr,call:=call,op:=op,dead:=dd,cl:=fD,keys:=kN,eqs:=sf} (uI 111 (KZ r) fun _=>none) n 0).inl):NK I M n r br m o6 g nx n J:=hJ▸Tx hI hM n 0
end Ab
namespace Ab
open Go Go.Proofs.Tryz
set_option maxHeartbeats 100000000
set_option maxRecDepth 100000
variable{I:Pr}(hI:I=al){M:Md}(hM:M= .al){n nx r s p q u rl:Nat}{g:Nat→Option Ob}
 include hI hM
theorem cZ{a0:aL}{v:Bool}(h:fc I M n a0=some v):
  bO 89 [(.agg (aZ M r a0))] (vb v) g nx:=have _:=hM;by
 refine cr func89 c89 r aby afE [] 11 ntmps89 [.tmp 2] hI fun call hc=>?_
 cbv;cases h;exact fin
 include hI hM
theorem Cs{a0:ae}{v:List Bool}(h:mv I M n a0=some v):
  bO 59 [(.agg (az M r a0))] (.sl r (M.map cA v)) g nx:=by
 refine yp func59 c59 r abT afZ [3,4] 36 ntmps59 [.tmp 2] hI (bk.cons (UG r) (tF PP fD)) n fun call hc=>?_
 refine aiz (fun J JR hJ=>?_);cbv
 refine letE h fun n1 cH h=>⟨_,ak hI hM cH,?_⟩;cbv
 refine ab h fun l2 JV h=>⟨_,_,dw (enc:=cA) hI hM JV (by decide) rfl,?_⟩;cbv
 refine⟨_,ak hI hM cH,?_⟩;cbv
 refine lp h (fun(l3,z4)=>[(17,(vi z4))]) (fun(l3,z4)=>[(12,.arr 1 (M.map cA l3))]) fun ju m1 aS st h=>?_
 obtain⟨l3,z4⟩:=st
 dsimp only[jc]at h
 cbv
 refine si h (fun h=>?_) fun h=>?_
 ·as_aux_lemma=>
   cbv
   refine ab h fun x5 rU h=>⟨_,ai hM rU rfl,?_⟩;cbv
   refine ab h fun y6 yT h=>⟨_,_,_,us hc (cZ hI hM yT),?_⟩;cbv
   refine si h (fun h=>?_) fun h=>?_
   ·cbv
    refine letE h fun n7 Xl h=>⟨_,ak hI hM Xl,?_⟩;cbv
    refine lp h (fun(l8,z9)=>[(26,(vi z9))]) (fun(l8,z9)=>[(12,.arr 1 (M.map cA l8))]) fun Bc m2 cI st h=>?_
    obtain⟨l8,z9⟩:=st
    dsimp only[ja]at h
    cbv
    refine si h (fun h=>?_) fun h=>?_
    ·cbv
     refine ab h fun yC xS h=>⟨_,ai hM xS rfl,?_⟩;cbv
     refine ab h fun I2 MN h=>?_
     refine aiF hI hM hJ _ _ _ _ _ _ _ MN ⟨fun l=>rfl,?_,trivial⟩ ?_
     ·cbv
      all_goals(repeat' apply And.intro)
      all_goals first|trivial|rfl|exact(aE hM)
     cbv
     exact bN (cI _ _ h)
    cbv
    exact bN (aS _ _ h)
   cbv
   exact bN (aS _ _ h)
 cbv
 refine ab h fun u16 Mt h=>?_
 obtain rfl:=Option.some.inj h
 cbv
 all_goals(repeat' apply And.intro)
 all_goals first|trivial|rfl|exact(aE hM)|exact cX hM Mt
 include hI hM
theorem dc{a0:List Int}{v:Int}(h:my I M n a0=some v):
  bO 117 [(.sl r (M.map an a0))] (vi v) g nx:=by
 refine cr func117 aqT r WI Y8 [] 17 ntmps117 [.tmp 2] hI fun call hc=>?_
 cbv
 refine letE h fun n1 cH h=>⟨_,ak hI hM cH,?_⟩;cbv
 refine lp h (fun(z2,z3)=>[(3,(vi z2)),(8,(vi z3))]) (fun _=>[]) fun ju m1 aS st h=>?_
 obtain⟨z2,z3⟩:=st
 dsimp only[vB]at h
 cbv
 refine si h (fun h=>?_) fun h=>by cbv;cases h;exact fin
 cbv
 refine ab h fun x4 qh h=>⟨_,ai hM qh rfl,?_⟩;cbv
 exact bN (aS _ _ h)
 include hI hM
theorem v8{a0:aj}{a1:ByteArray}{v:Bool}(h:rz I M n a0 a1=some v):
  bO 118 [(.agg (ao M r a0)),(.aO r [(vs a1)] 0)] (vb v) g nx:=have _:=hM;by
 refine cr func118 aqS r WH Y7 [] 8 ntmps118 [.tmp 3] hI fun call hc=>?_
 cbv;cases h;exact fin
 include hI hM
theorem oV{a0:List aj}{aW:ByteArray}{v:Int}(h:jO I M n a0 aW=some v):
  bO 92 [(.sl r (M.map (ao M r) a0)),(.fn (.func 118) [(.aO r [(vs aW)] 0)])] (vi v) g nx:=by
 refine cr func92 c92 r Hp IG [] 19 ntmps92 [.tmp 4] hI fun call hc=>?_
 cbv
 refine letE h fun n1 cH h=>⟨_,ak hI hM cH,?_⟩;cbv
 refine lp h (fun z2=>[(8,(vi z2))]) (fun z2=>[]) fun ju m1 aS z2 h=>?_
 dsimp only[iB]at h
 cbv
 refine si h (fun h=>?_) fun h=>by cbv;cases h;exact fin
 cbv
 refine ab h fun x3 iJ h=>⟨_,ai hM iJ rfl,?_⟩;cbv
 refine ab h fun y4 lb h=>⟨_,_,_,us hc (v8 hI hM lb),?_⟩;cbv
 refine si h (fun h=>by cbv;cases h;exact fin) fun h=>?_
 cbv
 exact bN (aS _ _ h)
 include hI hM
theorem kW{a0:ah}{a1:ByteArray}{v:aj}(h:tR I M n a0 a1=some v):
  bO 72 [(.agg (ba M r a0)),(vs a1)] (.agg (ao M r v)) g nx:=by
 refine cr func72 c72 r abI afO [] 15 ntmps72 [.cell 4 57] hI fun call hc=>?_
 cbv
 refine ab h fun y1 cN h=>⟨_,_,_,us hc (oV hI hM cN),?_⟩;cbv
 refine ab h fun x2 Of h=>⟨_,ai hM Of rfl,?_⟩;cbv
 cbv;cases h;exact fin
 include hI hM
theorem zI{a0:aL}{v:Bool}(h:vz I M n a0=some v):
  bO 120 [(.agg (aZ M r a0))] (vb v) g nx:=by
 refine cr func120 aqQ r WE Y5 [] 6 ntmps120 [.tmp 2] hI fun call hc=>?_
 cbv
 refine ab h fun y1 cN h=>⟨_,_,_,us hc (cZ hI hM cN),?_⟩;cbv
 cbv;cases h;exact fin
 include hI hM
theorem s7{a0:aL}{v:Bool}(h:oc I M n a0=some v):
  bO 152 [(.agg (aZ M r a0)),(.aO r [(.fn (.func 120) [])] 0)] (vb v) g nx:=by
 refine cr func152 aqs r V9 YC [] 8 ntmps152 [.tmp 3] hI fun call hc=>?_
 cbv
 refine ab h fun y1 cN h=>⟨_,_,_,us hc (zI hI hM cN),?_⟩;cbv
 cbv;cases h;exact fin
 include hI hM
theorem qW{a0:List aL}{v:Int}(h:ma I M n a0=some v):
  bO 94 [(.sl r (M.map (aZ M r) a0)),(.fn (.func 152) [(.aO r [(.fn (.func 120) [])] 0)])] (vi v) g nx:=by
 refine cr func94 c94 r Rv US [] 19 ntmps94 [.tmp 4] hI fun call hc=>?_
 cbv
 refine letE h fun n1 cH h=>⟨_,ak hI hM cH,?_⟩;cbv
 refine lp h (fun z2=>[(8,(vi z2))]) (fun z2=>[]) fun ju m1 aS z2 h=>?_
 dsimp only[kr]at h
 cbv
 refine si h (fun h=>?_) fun h=>by cbv;cases h;exact fin
 cbv
 refine ab h fun x3 iJ h=>⟨_,ai hM iJ rfl,?_⟩;cbv
 refine ab h fun y4 lb h=>⟨_,_,_,us hc (s7 hI hM lb),?_⟩;cbv
 refine si h (fun h=>by cbv;cases h;exact fin) fun h=>?_
 cbv
 exact bN (aS _ _ h)
 include hI hM
theorem oZ{a0:List aL}{v:Bool}(h:jR I M n a0=some v):
  bO 37 [(.sl r (M.map (aZ M r) a0)),(.fn (.func 152) [(.aO r [(.fn (.func 120) [])] 0)])] (vb v) g nx:=by
 refine cr func37 c37 r RA UY [] 9 ntmps37 [.tmp 4] hI fun call hc=>?_
 cbv
 refine ab h fun y1 cN h=>⟨_,_,_,us hc (qW hI hM cN),?_⟩;cbv
 cbv;cases h;exact fin
 include hI hM
theorem uY{a0:List aL}{v:Bool}(h:qj I M n a0=some v):
  bO 119 [(.sl r (M.map (aZ M r) a0)),(.fn (.func 120) [])] (vb v) g nx:=by
 refine cr func119 aqR r WG Y6 [] 9 ntmps119 [.tmp 4] hI fun call hc=>?_
 cbv
 refine ab h fun y1 cN h=>⟨_,_,_,us hc (oZ hI hM cN),?_⟩;cbv
 cbv;cases h;exact fin
 include hI hM
theorem o7{a0:ae}{v:Bool}(h:tQ I M n a0=some v):
  bO 74 [(.agg (az M r a0))] (vb v) g nx:=by
 refine cr func74 c74 r abG afM [] 6 ntmps74 [.tmp 2] hI fun call hc=>?_
 cbv
 refine ab h fun y1 cN h=>⟨_,_,_,us hc (uY hI hM cN),?_⟩;cbv
 cbv;cases h;exact fin
 include hI hM
theorem oH{a0:aj}{v:Bool}(h:mw I M n a0=some v):
  bO 67 [(.agg (ao M r a0))] (vb v) g nx:=by
 refine cr func67 c67 r abL afR [] 22 ntmps67 [.tmp 2] hI fun call hc=>?_
 cbv
 refine letE h fun n1 cH h=>⟨_,ak hI hM cH,?_⟩;cbv
 refine ab h fun x2 Of h=>⟨_,fun hp=>ai hM (aw Of hp.1) rfl,?_⟩;cbv
 refine ab h fun x3 iJ h=>⟨_,fun hp=>ai hM (aw iJ hp.1) rfl,?_⟩;cbv
 refine ab h fun y4 lb h=>⟨_,fun hp=>us hc (o7 hI hM (aw lb hp.1)),?_⟩;cbv
 cbv;cases h;exact fin
 include hI hM
theorem dN{nN:ByteArray}{nM:Int}{nL:Int}{nK:List Int}{a1:List Int}{v:List Int}(h:iZ I M n nN nM nL nK a1=some v):
  bO 55 [(.aO rl [(vs nN),(vi nM),(.v dJ),(vi nL),(.sl r (M.map an nK)),(.v .nilFunc)] 0),(.sl p (M.map an a1))] (.sl r (M.map an v)) g nx:=by
 refine cr func55 c55 r xN yn [] 26 ntmps55 [.tmp 4] hI fun call hc=>?_
 cbv
 refine letE h fun n1 cH h=>⟨_,ak hI hM cH,?_⟩;cbv
 refine lp h (fun(z2,l3)=>[(5,(.gs r (.l 23) (M.map an l3))),(10,(vi z2))]) (fun _=>[]) fun ju m1 aS st h=>?_
 obtain⟨z2,l3⟩:=st
 dsimp only[mr]at h
 cbv
 refine si h (fun h=>?_) fun h=>by cbv;cases h;exact fin
 cbv
 refine ab h fun x4 qh h=>⟨_,ai hM qh rfl,?_⟩;cbv
 refine ab h fun x5 rU h=>⟨_,ai hM rU rfl,?_⟩;cbv
 refine⟨_,bJ (enc:=an) (x:=x5) hM (af _) rfl,?_⟩;cbv
 refine ab h fun l6 PW h=>⟨_,au (enc:=an) hI hM PW (fun _=>rfl) rfl (fun _=>rfl),?_⟩;cbv
 exact bN (aS _ _ h)
 include hI hM
theorem ev_passes_work_slots_v8{nN:ByteArray}{nM:Int}{nL:Int}{lh:ah}{a1:List Int}{v:List Int}(h:vx I M n nN nM nL lh a1=some v):
  bO 55 [(.aO rl [(vs nN),(vi nM),(.v dJ),(vi nL),(.v dJ),(.fn (.func 71) [(.aO q (ba M u lh) 0)])] 0),(.sl p (M.map an a1))] (.sl r (M.map an v)) g nx:=by
 refine cr func55 c55 r xN yn [] 26 ntmps55 [.tmp 4] hI fun call hc=>?_
 cbv
 refine letE h fun n1 cH h=>⟨_,ak hI hM cH,?_⟩;cbv
 refine lp h (fun(z2,l3)=>[(5,(.gs r (.l 23) (M.map an l3))),(10,(vi z2))]) (fun _=>[]) fun ju m1 aS st h=>?_
 obtain⟨z2,l3⟩:=st
 dsimp only[mq]at h
 cbv
 refine si h (fun h=>?_) fun h=>by cbv;cases h;exact fin
 cbv
 refine ab h fun x4 qh h=>⟨_,ai hM qh rfl,?_⟩;cbv
 cases h
 include hI hM
theorem lO{nN:ByteArray}{nM:Int}{ER:List aL}{nL:Int}{nK:List Int}{lh:ah}{a1:List Int}{v:List Int}(h:oa I M n nN nM ER nL nK lh a1=some v):
  bO 55 [(.aO rl [(vs nN),(vi nM),(.sl r (M.map (aZ M r) ER)),(vi nL),(.sl r (M.map an nK)),(.fn (.func 71) [(.aO q (ba M u lh) 0)])] 0),(.sl p (M.map an a1))] (.sl r (M.map an v)) g nx:=by
 refine cr func55 c55 r xN yn [] 26 ntmps55 [.tmp 4] hI fun call hc=>?_
 cbv
 refine letE h fun n1 cH h=>⟨_,ak hI hM cH,?_⟩;cbv
 refine lp h (fun(z2,l3)=>[(5,(.gs r (.l 23) (M.map an l3))),(10,(vi z2))]) (fun _=>[]) fun ju m1 aS st h=>?_
 obtain⟨z2,l3⟩:=st
 dsimp only[mo]at h
 cbv
 refine si h (fun h=>?_) fun h=>by cbv;cases h;exact fin
 cbv
 refine ab h fun x4 qh h=>⟨_,ai hM qh rfl,?_⟩;cbv
 refine ab h fun x5 rU h=>⟨_,ai hM rU rfl,?_⟩;cbv
 refine⟨_,bJ (enc:=an) (x:=x5) hM (af _) rfl,?_⟩;cbv
 refine ab h fun l6 PW h=>⟨_,au (enc:=an) hI hM PW (fun _=>rfl) rfl (fun _=>rfl),?_⟩;cbv
 exact bN (aS _ _ h)
 include hI hM
theorem ev_passes_work_slots_v10{nN:ByteArray}{nM:Int}{nL:Int}{lh:ah}{a1:List Int}{v:List Int}(h:uR I M n nN nM nL lh a1=some v):
  bO 55 [(.aO rl [(vs nN),(vi nM),(.v dJ),(vi nL),(.v dJ),(.fn (.func 73) [(.aO q (ba M u lh) 0)])] 0),(.sl p (M.map an a1))] (.sl r (M.map an v)) g nx:=by
 refine cr func55 c55 r xN yn [] 26 ntmps55 [.tmp 4] hI fun call hc=>?_
 cbv
 refine letE h fun n1 cH h=>⟨_,ak hI hM cH,?_⟩;cbv
 refine lp h (fun(z2,l3)=>[(5,(.gs r (.l 23) (M.map an l3))),(10,(vi z2))]) (fun _=>[]) fun ju m1 aS st h=>?_
 obtain⟨z2,l3⟩:=st
 dsimp only[lH]at h
 cbv
 refine si h (fun h=>?_) fun h=>by cbv;cases h;exact fin
 cbv
 refine ab h fun x4 qh h=>⟨_,ai hM qh rfl,?_⟩;cbv
 cases h
 include hI hM
theorem kQ{nN:ByteArray}{nM:Int}{ER:List aL}{nL:Int}{nK:List Int}{lh:ah}{a1:List Int}{v:List Int}(h:nk I M n nN nM ER nL nK lh a1=some v):
  bO 55 [(.aO rl [(vs nN),(vi nM),(.sl r (M.map (aZ M r) ER)),(vi nL),(.sl r (M.map an nK)),(.fn (.func 73) [(.aO q (ba M u lh) 0)])] 0),(.sl p (M.map an a1))] (.sl r (M.map an v)) g nx:=by
 refine cr func55 c55 r xN yn [] 26 ntmps55 [.tmp 4] hI fun call hc=>?_
 cbv
 refine letE h fun n1 cH h=>⟨_,ak hI hM cH,?_⟩;cbv
 refine lp h (fun(z2,l3)=>[(5,(.gs r (.l 23) (M.map an l3))),(10,(vi z2))]) (fun _=>[]) fun ju m1 aS st h=>?_
 obtain⟨z2,l3⟩:=st
 dsimp only[lG]at h
 cbv
 refine si h (fun h=>?_) fun h=>by cbv;cases h;exact fin
 cbv
 refine ab h fun x4 qh h=>⟨_,ai hM qh rfl,?_⟩;cbv
 refine ab h fun x5 rU h=>⟨_,ai hM rU rfl,?_⟩;cbv
 refine⟨_,bJ (enc:=an) (x:=x5) hM (af _) rfl,?_⟩;cbv
 refine ab h fun l6 PW h=>⟨_,au (enc:=an) hI hM PW (fun _=>rfl) rfl (fun _=>rfl),?_⟩;cbv
 exact bN (aS _ _ h)
 include hI hM
theorem Eu{a0:ah}{a1:Int}{a2:Int}{v:ae×Int}(h:rL I M n a0 a1 a2=some v):
  bO 109 [(.agg (ba M r a0)),(vi a1),(vi a2)] (.fT [(.agg (az M r v.1)),(vi v.2)]) g nx:=by
 refine cr func109 aqX r WQ Zf [] 49 ntmps109 [.cell 6 61,.tmp 7] hI fun call hc=>?_
 cbv
 refine ab h fun y1 cN h=>⟨_,_,_,us hc (cT hI hM cN),?_⟩;cbv
 refine si h (fun h=>by cbv;cases h;exact fin) fun h=>?_
 cbv
 refine letE h fun n2 oQ h=>⟨_,ak hI hM oQ,?_⟩;cbv
 refine ab h fun x3 iJ h=>⟨_,fun hp=>ai hM (aw iJ hp.1) rfl,?_⟩;cbv
 refine letE h fun n4 My h=>⟨_,ak hI hM My,?_⟩;cbv
 refine si h (fun h=>by cbv;cases h;exact fin) fun h=>?_
 cbv
 refine ab h fun x5 rU h=>⟨_,ai hM rU rfl,?_⟩;cbv
 refine ab h fun x6 wP h=>⟨_,ai hM wP rfl,?_⟩;cbv
 cbv;cases h;exact fin
 include hI hM
theorem IE{a0:ah}{a1:Int}{a2:Int}{v:(List Bool)×Int}(h:xa I M n a0 a1 a2=some v):
  bO 52 [(.agg (ba M r a0)),(vi a1),(vi a2)] (.fT [(.sl r (M.map cA v.1)),(vi v.2)]) g nx:=by
 refine yp func52 c52 r abZ af5 [] 71 ntmps52 [.tmp 6,.tmp 7] hI (bk.cons (UD r) (bk.cons (UH r) (tF PP fD))) 8 fun call hc=>?_
 cbv
 refine ab h fun y1 cN h=>⟨_,_,_,us hc (Eu hI hM cN),?_⟩;cbv
 refine si h (fun h=>by cbv;cases h;exact fin) fun h=>?_
 cbv
 refine letE h fun n2 oQ h=>⟨_,ak hI hM oQ,?_⟩;cbv
 refine ab h fun l3 Og h=>⟨_,_,dw (enc:=cA) hI hM Og (by decide) rfl,?_⟩;cbv
 refine ab h fun k4 qk4 h=>⟨_,bS hI hM qk4,?_⟩;cbv
 refine ab h fun x5 rU h=>?_
 refine ab h fun l6 PW h=>⟨_,cF hI hM rU PW (by decide) rfl rfl,?_⟩;cbv
 intro l
 cbv
 refine⟨_,ak hI hM oQ,?_⟩;cbv
 refine lp h (fun(l7,z8)=>[(3,(vi z8))]) (fun(l7,z8)=>[(28,.arr 1 (M.map cA l7))]) fun ju m1 aS st h=>?_
 obtain⟨l7,z8⟩:=st
 dsimp only[oJ]at h
 cbv
 refine si h (fun h=>?_) fun h=>?_
 ·as_aux_lemma=>
   cbv
   refine ab h fun x9 Xj h=>⟨_,ai hM Xj rfl,?_⟩;cbv
   try(refine⟨⟨rfl,rfl,rfl⟩,?_⟩;cbv)
   try(refine⟨rfl,?_⟩;cbv)
   refine ab h fun k10 Th h=>?_
   refine ab h fun FV xf h=>?_
   refine ab h fun iq ad8 h=>?_
   apply Exists.intro;refine⟨?_,_,rfl,?_⟩
   ·cbv
    refine⟨_,bS hI hM Th,?_⟩;cbv
    refine⟨_,_,rfl,bc hM xf,rfl,?_⟩;cbv
    refine⟨_,bS hI hM Th,?_⟩;cbv
    refine⟨?_,trivial⟩
    refine⟨_,cF hI hM xf ad8 (by decide) rfl rfl,?_⟩;cbv
    all_goals exact .inl rfl
   cbv
   refine⟨_,bS hI hM Th,?_⟩;cbv
   refine ab h fun Bi xe h=>⟨_,_,rfl,bc hM xe,rfl,?_⟩;cbv
   refine si h (fun h=>?_) fun h=>?_
   ·cbv
    refine letE h fun Kg MB h=>⟨_,ak hI hM MB,?_⟩;cbv
    refine lp h (fun(xh,jW)=>[(62,(vi jW))]) (fun(xh,jW)=>[(28,.arr 1 (M.map cA xh))]) fun Bc m2 cI st h=>?_
    obtain⟨xh,jW⟩:=st
    dsimp only[lP]at h
    cbv
    refine si h (fun h=>?_) fun h=>?_
    ·cbv
     refine ab h fun qS Aw h=>⟨_,ai hM Aw rfl,?_⟩;cbv
     refine ab h fun TZ Ce h=>⟨_,bS hI hM Ce,?_⟩;cbv
     refine ab h fun Hd yU h=>?_
     refine ab h fun TT ML h=>⟨_,cF hI hM yU ML (by decide) rfl rfl,?_⟩;cbv
     exact bN (cI _ _ h)
    cbv
    try(refine⟨rfl,?_⟩;cbv)
    refine lZ hI ?_;cbv
    exact bN (aS _ _ h)
   cbv
   try(refine⟨rfl,?_⟩;cbv)
   refine lZ hI ?_;cbv
   exact bN (aS _ _ h)
 cbv
 try(refine⟨rfl,?_⟩;cbv)
 refine ab h fun ZY Fm h=>?_
 obtain rfl:=Option.some.inj h
 cbv
 all_goals(repeat' apply And.intro)
 all_goals first|trivial|rfl|exact(aE hM)|exact cX hM Fm
 include hI hM
theorem mO{a0:ah}{a1:ByteArray}{v:Int×Int}(h:pT I M n a0 a1=some v):
  bO 90 [(.agg (ba M r a0)),(vs a1)] (.fT [(vi v.1),(vi v.2)]) g nx:=by
 refine yp func90 c90 r abx afD [] 20 ntmps90 [.tmp 4,.tmp 5] hI (bk.cons (Eo r) (tF PP fD)) 8 fun call hc=>?_
 cbv
 refine ab h fun y1 cN h=>⟨_,_,_,us hc (cT hI hM cN),?_⟩;cbv
 refine si h (fun h=>by cbv;cases h;exact fin) fun h=>?_
 cbv
 refine ab h fun y2 rT h=>⟨_,_,_,us hc (bQ hI hM rT),?_⟩;cbv
 exact si h (fun h=>by cbv;cases h;exact fin) fun h=>by cbv;cases h;exact fin
 include hI hM
theorem um{a0:aL}{a1:aL}{a2:ah}{a3:List Int}{v:Bool}(h:pa I M n a0 a1 a2 a3=some v):
  bO 153 [(.agg (aZ M r a0)),(.agg (aZ M r a1)),(.aO r (ba M r a2) 0),(.nc rl 1 (M.map an a3))] (vb v) g nx:=by
 refine cr func153 aqr r V8 YB [] 60 ntmps153 [.tmp 6] hI fun call hc=>?_
 cbv
 refine ab h fun y1 cN h=>⟨_,fun hp=>us hc (c6 hI hM (aw cN hp.1)),?_⟩;cbv
 refine si h (fun h=>by cbv;cases h;exact fin) fun h=>?_
 cbv
 refine ab h fun y2 rT h=>⟨_,_,_,us hc (cZ hI hM rT),?_⟩;cbv
 refine si h (fun h=>by cbv;cases h;exact fin) fun h=>?_
 cbv
 refine ab h fun y3 HJ h=>⟨_,_,_,us hc (mO hI hM HJ),?_⟩;cbv
 refine ab h fun y4 lb h=>⟨_,_,_,us hc (mO hI hM lb),?_⟩;cbv
 refine ab h fun u5 qu5 h=>?_
 refine ab h fun x6 wP h=>?_
 refine ab h fun x7 BA h=>?_
 apply Exists.intro;refine⟨?_,_,rfl,?_⟩
 ·cbv
  refine⟨_,⟨aT hI hM qu5,rfl,IT (enc:=an) hM wP⟩,?_⟩;cbv
  refine⟨_,⟨aT hI hM qu5,rfl,IT (enc:=an) hM BA⟩,?_⟩;cbv
  all_goals exact .inl rfl
 cbv;cases h;exact fin
 include hI hM
theorem qY{a0:List aL}{a1:List aL}{wC:ah}{wB:List Int}{v:Bool}(h:mc I M n a0 a1 wC wB=some v):
  bO 98 [(.sl r (M.map (aZ M r) a0)),(.sl r (M.map (aZ M r) a1)),(.fn (.func 153) [(.aO r (ba M r wC) 0),(.nc rl 1 (M.map an wB))])] (vb v) g nx:=by
 refine cr func98 c98 r Ru UR [] 32 ntmps98 [.tmp 6] hI fun call hc=>?_
 cbv
 refine letE h fun n1 cH h=>⟨_,ak hI hM cH,?_⟩;cbv
 refine letE h fun n2 oQ h=>⟨_,ak hI hM oQ,?_⟩;cbv
 refine si h (fun h=>by cbv;cases h;exact fin) fun h=>?_
 cbv
 refine⟨_,ak hI hM cH,?_⟩;cbv
 refine lp h (fun z3=>[(17,(vi z3))]) (fun z3=>[]) fun ju m1 aS z3 h=>?_
 dsimp only[kx]at h
 cbv
 refine si h (fun h=>?_) fun h=>by cbv;cases h;exact fin
 cbv
 refine ab h fun x4 qh h=>⟨_,ai hM qh rfl,?_⟩;cbv
 refine ab h fun x5 rU h=>⟨_,ai hM rU rfl,?_⟩;cbv
 refine ab h fun y6 yT h=>⟨_,_,_,us hc (um hI hM yT),?_⟩;cbv
 refine si h (fun h=>by cbv;cases h;exact fin) fun h=>?_
 cbv
 exact bN (aS _ _ h)
 include hI hM
theorem zH{a0:ah}{a1:List Int}{a2:ae}{a3:ae}{v:Bool}(h:qi I M n a0 a1 a2 a3=some v):
  bO 127 [(.agg (ba M r a0)),(.ar 12 1 (M.map an a1)),(.agg (az M r a2)),(.agg (az M r a3))] (vb v) g nx:=by
 refine cr func127 aqM r Wz Y0 [5] 36 ntmps127 [.tmp 8] hI fun call hc=>?_
 cbv
 try(refine⟨⟨by decide,by decide⟩,?_⟩;cbv)
 refine ab h fun y1 cN h=>⟨fun _=>rfl,(vb y1),fun hp=>fun ρ=>by cbv;exact us hc (qY hI hM (aw cN hp.1)),?_⟩;cbv
 cbv;cases h;exact fin
 include hI hM
theorem sa{a0:ae}{a1:ae}{a2:ah}{a3:List Int}{v:Bool}(h:nn I M n a0 a1 a2 a3=some v):
  bO 126 [(.agg (az M r a0)),(.agg (az M r a1)),(.aO rl (ba M r a2) 0),(.nc rl 1 (M.map an a3))] (vb v) g nx:=by
 refine cr func126 aqN r WA Y1 [] 12 ntmps126 [.tmp 6] hI fun call hc=>?_
 cbv
 refine ab h fun u1 qu1 h=>?_
 (first|refine⟨⟨aT hI hM qu1,rfl⟩,?_⟩|refine⟨⟨aT hI hM qu1,trivial⟩,?_⟩|refine⟨aT hI hM qu1,?_⟩)
 cbv
 refine ab h fun y2 rT h=>⟨_,_,_,us hc (zH hI hM rT),?_⟩;cbv
 cbv;cases h;exact fin
 include hI hM
theorem oD{a0:List ae}{a1:List ae}{wC:ah}{wB:List Int}{v:Bool}(h:iT I M n a0 a1 wC wB=some v):
  bO 101 [(.sl r (M.map (az M r) a0)),(.sl r (M.map (az M r) a1)),(.fn (.func 126) [(.aO rl (ba M r wC) 0),(.nc rl 1 (M.map an wB))])] (vb v) g nx:=by
 refine cr func101 akV r N5 O6 [] 32 ntmps101 [.tmp 6] hI fun call hc=>?_
 cbv
 refine letE h fun n1 cH h=>⟨_,ak hI hM cH,?_⟩;cbv
 refine letE h fun n2 oQ h=>⟨_,ak hI hM oQ,?_⟩;cbv
 refine si h (fun h=>by cbv;cases h;exact fin) fun h=>?_
 cbv
 refine⟨_,ak hI hM cH,?_⟩;cbv
 refine lp h (fun z3=>[(17,(vi z3))]) (fun z3=>[]) fun ju m1 aS z3 h=>?_
 dsimp only[gU]at h
 cbv
 refine si h (fun h=>?_) fun h=>by cbv;cases h;exact fin
 cbv
 refine ab h fun x4 qh h=>⟨_,ai hM qh rfl,?_⟩;cbv
 refine ab h fun x5 rU h=>⟨_,ai hM rU rfl,?_⟩;cbv
 refine ab h fun y6 yT h=>⟨_,_,_,us hc (sa hI hM yT),?_⟩;cbv
 refine si h (fun h=>by cbv;cases h;exact fin) fun h=>?_
 cbv
 exact bN (aS _ _ h)
 include hI hM
theorem ux{a0:aj}{a1:ah}{a2:List Int}{a3:Int}{a4:aj}{v:Bool}(h:pw I M n a0 a1 a2 a3 a4=some v):
  bO 125 [(.agg (ao M r a0)),(.aO rl (ba M r a1) 0),(.nc rl 1 (M.map an a2)),(.aO r [(vi a3)] 0),(.aO r (ao M r a4) 0)] (vb v) g nx:=by
 refine cr func125 aqO r WB Y2 [] 38 ntmps125 [.tmp 6] hI fun call hc=>?_
 cbv
 refine ab h fun y1 cN h=>⟨_,_,_,us hc (mO hI hM cN),?_⟩;cbv
 refine ab h fun u2 qu2 h=>?_
 refine ab h fun x3 iJ h=>?_
 refine ab h fun x4 qh h=>?_
 refine ab h fun y5 HG h=>?_
 apply Exists.intro;refine⟨?_,_,rfl,?_⟩
 ·cbv
  refine⟨_,⟨aT hI hM qu2,rfl,IT (enc:=an) hM iJ⟩,?_⟩;cbv
  refine⟨_,⟨aT hI hM qu2,rfl,IT (enc:=an) hM qh⟩,?_⟩;cbv
  refine⟨?_,trivial⟩
  refine⟨?_,trivial⟩
  refine⟨_,fun hp=>us hc (oD hI hM (aw HG hp.1)),?_⟩;cbv
  all_goals exact .inl rfl
 cbv;cases h;exact fin
 include hI hM
theorem b8{a0:List aj}{aW:ah}{ri:List Int}{FN:Int}{FM:aj}{v:Int}(h:jN I M n a0 aW ri FN FM=some v):
  bO 92 [(.sl r (M.map (ao M r) a0)),(.fn (.func 125) [(.aO rl (ba M r aW) 0),(.nc rl 1 (M.map an ri)),(.aO r [(vi FN)] 0),(.aO r (ao M r FM) 0)])] (vi v) g nx:=by
 refine cr func92 c92 r Hp IG [] 19 ntmps92 [.tmp 4] hI fun call hc=>?_
 cbv
 refine letE h fun n1 cH h=>⟨_,ak hI hM cH,?_⟩;cbv
 refine lp h (fun z2=>[(8,(vi z2))]) (fun z2=>[]) fun ju m1 aS z2 h=>?_
 dsimp only[iA]at h
 cbv
 refine si h (fun h=>?_) fun h=>by cbv;cases h;exact fin
 cbv
 refine ab h fun x3 iJ h=>⟨_,ai hM iJ rfl,?_⟩;cbv
 refine ab h fun y4 lb h=>⟨_,_,_,us hc (ux hI hM lb),?_⟩;cbv
 refine si h (fun h=>by cbv;cases h;exact fin) fun h=>?_
 cbv
 exact bN (aS _ _ h)
 include hI hM
theorem rI{a0:ah}{v:List Int}(h:ql I M n a0=some v):
  bO 85 [(.agg (ba M r a0))] (.ar 12 1 (M.map an v)) g nx:=by
 refine cr func85 c85 r abC afI [1,3] 30 ntmps85 [.cell 2 110] hI fun call hc=>?_
 cbv
 refine letE h fun l1 MO h=>⟨_,⟨rfl,iw (enc:=an) hI hM MO rfl⟩,?_⟩;cbv
 refine letE h fun l2 JV h=>⟨_,⟨rfl,iw (enc:=an) hI hM JV rfl⟩,?_⟩;cbv
 refine lp h (fun l3=>[]) (fun l3=>[(3,.arr 1 (M.map an l3))]) fun ju m1 aS l3 h=>?_
 dsimp only[sG]at h
 cbv
 refine letE h fun l4 Lq h=>⟨_,⟨rfl,iw (enc:=an) hI hM Lq rfl⟩,?_⟩;cbv
 refine letE h fun n5 Xm h=>⟨_,ak hI hM Xm,?_⟩;cbv
 refine lp h (fun(l6,z7)=>[(10,(vi z7))]) (fun(l6,z7)=>[(4,.arr 1 (M.map an l6))]) fun Bc m2 cI st h=>?_
 obtain⟨l6,z7⟩:=st
 dsimp only[sF]at h
 cbv
 refine si h (fun h=>?_) fun h=>?_
 ·as_aux_lemma=>
   cbv
   refine ab h fun x8 R3 h=>⟨_,ai hM R3 rfl,?_⟩;cbv
   refine ab h fun l9 Xn h=>?_
   refine ab h fun qO oT h=>?_
   refine ab h fun k11 Cf h=>?_
   refine ab h fun u9 nf h=>?_
   refine ab h fun xi MM h=>?_
   apply Exists.intro;refine⟨?_,_,rfl,?_⟩
   ·cbv
    refine⟨?_,?_⟩
    ·refine⟨?_,?_⟩
     ·refine⟨_,wu hI hM Xn (fun _=>rfl),?_⟩;cbv
      refine⟨?_,trivial⟩
      refine⟨?_,trivial⟩
      refine⟨fun _=>rfl,(vi qO),g,nx,fun ρ=>by cbv;exact us hc (b8 hI hM oT),?_⟩;cbv
      (first|refine⟨_,⟨rfl,rfl,aM hI Cf⟩,?_⟩|refine⟨_,aM hI Cf,?_⟩)
      cbv
      refine⟨?_,trivial⟩
      refine⟨_,cF hI hM nf MM (by decide) rfl rfl,?_⟩;cbv
      all_goals exact .inl rfl
     refine⟨?_,trivial⟩
     refine⟨?_,trivial⟩
     refine⟨_,wu hI hM Xn (fun _=>rfl),?_⟩;cbv
     refine⟨?_,trivial⟩
     refine⟨fun _=>rfl,(vi qO),g,nx,fun ρ=>by cbv;exact us hc (b8 hI hM oT),?_⟩;cbv
     (first|refine⟨_,⟨rfl,rfl,aM hI Cf⟩,?_⟩|refine⟨_,aM hI Cf,?_⟩)
     cbv
     refine⟨?_,trivial⟩
     refine⟨_,cF hI hM nf MM (by decide) rfl rfl,?_⟩;cbv
     all_goals exact .inl rfl
    refine⟨?_,?_⟩
    ·refine⟨_,wu hI hM Xn (fun _=>rfl),?_⟩;cbv
     refine⟨?_,trivial⟩
     refine⟨?_,trivial⟩
     refine⟨fun _=>rfl,(vi qO),g,nx,fun ρ=>by cbv;exact us hc (b8 hI hM oT),?_⟩;cbv
     (first|refine⟨_,⟨rfl,rfl,aM hI Cf⟩,?_⟩|refine⟨_,aM hI Cf,?_⟩)
     cbv
     refine⟨?_,trivial⟩
     refine⟨_,cF hI hM nf MM (by decide) rfl rfl,?_⟩;cbv
     all_goals exact .inl rfl
    refine⟨?_,trivial⟩
    refine⟨?_,?_⟩
    ·refine⟨?_,trivial⟩
     refine⟨_,wu hI hM Xn (fun _=>rfl),?_⟩;cbv
     refine⟨?_,trivial⟩
     refine⟨fun _=>rfl,(vi qO),g,nx,fun ρ=>by cbv;exact us hc (b8 hI hM oT),?_⟩;cbv
     (first|refine⟨_,⟨rfl,rfl,aM hI Cf⟩,?_⟩|refine⟨_,aM hI Cf,?_⟩)
     cbv
     refine⟨?_,trivial⟩
     refine⟨_,cF hI hM nf MM (by decide) rfl rfl,?_⟩;cbv
     all_goals exact .inl rfl
    refine⟨?_,trivial⟩
    refine⟨_,wu hI hM Xn (fun _=>rfl),?_⟩;cbv
    refine⟨?_,trivial⟩
    refine⟨fun _=>rfl,(vi qO),g,nx,fun ρ=>by cbv;exact us hc (b8 hI hM oT),?_⟩;cbv
    (first|refine⟨_,⟨rfl,rfl,aM hI Cf⟩,?_⟩|refine⟨_,aM hI Cf,?_⟩)
    cbv
    refine⟨?_,trivial⟩
    refine⟨_,cF hI hM nf MM (by decide) rfl rfl,?_⟩;cbv
    all_goals exact .inl rfl
   cbv
   exact bN (cI _ _ h)
 cbv
 refine ab h fun u16 Mt h=>?_
 (first|refine⟨⟨rfl,aT hI hM Mt,rfl⟩,?_⟩|refine⟨⟨aT hI hM Mt,trivial⟩,?_⟩|refine⟨aT hI hM Mt,?_⟩)
 cbv
 refine ab h fun u17 adm h=>?_
 (first|refine⟨⟨rfl,aT hI hM adm,rfl⟩,?_⟩|refine⟨⟨aT hI hM adm,trivial⟩,?_⟩|refine⟨aT hI hM adm,?_⟩)
 cbv
 refine ab h fun u18 am4 h=>?_
 refine ab h fun u19 Xk h=>?_
 refine letE h fun b20 anI h=>⟨_,UJ hM am4 Xk anI rfl,?_⟩;cbv
 refine si h (fun h=>?_) fun h=>?_
 ·cbv
  refine ab h fun u21 Ms h=>?_
  (first|refine⟨⟨rfl,aT hI hM Ms,rfl⟩,?_⟩|refine⟨⟨aT hI hM Ms,trivial⟩,?_⟩|refine⟨aT hI hM Ms,?_⟩)
  cbv
  refine ab h fun VY yV h=>?_
  (first|refine⟨⟨rfl,rfl,rfl,aT hI hM yV,rfl,(by have hq:=dz (enc:=an) hM (fun _=>rfl) l3;rw[dU.eq_def]at hq;exact hq)⟩,?_⟩|refine⟨⟨aT hI hM yV,(by have hq:=dz (enc:=an) hM (fun _=>rfl) l3;rw[dU.eq_def]at hq;exact hq)⟩,?_⟩)
  cbv
  refine ab h fun Pv qU h=>?_
  obtain rfl:=Option.some.inj h
  cbv
  all_goals(repeat' apply And.intro)
  all_goals first|trivial|rfl|exact(aE hM)|exact aT hI hM qU
 cbv
 refine ab h fun u24 xT h=>?_
 (first|refine⟨⟨rfl,aT hI hM xT,rfl⟩,?_⟩|refine⟨⟨aT hI hM xT,trivial⟩,?_⟩|refine⟨aT hI hM xT,?_⟩)
 cbv
 refine ab h fun ZY Fm h=>?_
 (first|refine⟨⟨rfl,rfl,rfl,aT hI hM Fm,rfl,(by have hq:=dz (enc:=an) hM (fun _=>rfl) l6;rw[dU.eq_def]at hq;exact hq)⟩,?_⟩|refine⟨⟨aT hI hM Fm,(by have hq:=dz (enc:=an) hM (fun _=>rfl) l6;rw[dU.eq_def]at hq;exact hq)⟩,?_⟩)
 cbv
 exact bN (aS _ _ h)
end Ab
namespace Ab
open Go
set_option maxHeartbeats 4000000
set_option maxRecDepth 100000
theorem Kd{α:Type}{I:Pr}(hI:I=al){M:Md}(hM:M= .al){enc:α→List AV}{l:List α}(h:I.eR (M.map enc l)=0):l=[]:=by
 subst hI;subst hM
 have h:(l.map enc).length=0:=h
 cases l with
 |nil=>rfl
 |cons x r=>simp at h
theorem ZD{α:Type}{b:Nat}{l:List α}(h:CA b ([]:List α) []=some l):l=[]:=by
 unfold CA at h
 simp at h
 exact h
theorem wj{I:Pr}(hI:I=al){M:Md}(hM:M= .al){n:Nat}{a0:List Int}{v:List Int}(h:nz I M n a0=some v)(g:Nat→Option Ob)(nx:Nat){s:Nat}(r:Nat):
  km PP 86 [(.sl s (M.map an a0))] g nx (.sl r (M.map an v)) g nx:=by
 obtain⟨wrap,add,sub,mul,aJ,aV,pK,seq,cat,beq,not,pick,Qf,imax,eR,Lb,app,EB,II,flat,chunk,rep,set,room,within,nat,D0,nq,nr⟩:=I
 obtain⟨map,ln⟩:=M
 refine A8 lay mixed Go.Proofs.Tryz.func86 (c:=c86) (by kernel_rfl) rfl r [] abB afH [] fD (tF PP fD) (cl0 fD) 0 (by kernel_rfl) 8 Go.Proofs.Tryz.ntmps86 rfl (rs:=[.tmp 2]) (by kernel_rfl) hI fun call hc=>?_
 cbv
 intro b hb
 cbv
 refine⟨fun yD=>?_,fun GB=>?_⟩
 ·have h0:=Kd hI hM (hb yD)
  subst h0
  cbv
  refine ab h fun l1 MO h=>?_
  have h1:l1=[]:=by
   have:=ZD MO
   exact this
  subst h1
  obtain rfl:=Option.some.inj h
  cbv
  all_goals(repeat' apply And.intro)
  all_goals first|trivial|rfl|exact(aE hM)
 ·cbv
  refine⟨_,bl0 (enc:=an) hM,?_⟩
  cbv
  refine ab h fun l1 MO h=>?_
  refine⟨_,Bb (enc:=an) hI hM MO (fun _=>rfl) rfl (fun _=>rfl),?_⟩
  cbv
  obtain rfl:=Option.some.inj h
  cbv
  all_goals(repeat' apply And.intro)
  all_goals first|trivial|rfl|exact(aE hM)
theorem xk{I:Pr}(hI:I=al){M:Md}(hM:M= .al){n nx r s:Nat}{g:Nat→Option Ob}{a0:List Int}{v:List Int}(h:nz I M n a0=some v):bO 86 [(.sl s (M.map an a0))] (.sl r (M.map an v)) g nx:=⟨enters Go.Proofs.Tryz.func86 (c:=c86) (by kernel_rfl) (by kernel_rfl),wj hI hM h g nx r⟩
end Ab
namespace Ab
open Go Go.Proofs.Tryz
set_option maxHeartbeats 100000000
set_option maxRecDepth 100000
variable{I:Pr}(hI:I=al){M:Md}(hM:M= .al){n nx r s p q u rl:Nat}{g:Nat→Option Ob}
 include hI hM
theorem zK{a0:ah}{v:(List Int)×Int}(h:vH I M n a0=some v):
  bO 29 [(.agg (ba M r a0))] (.fT [(.sl r (M.map an v.1)),(vi v.2)]) g nx:=by
 refine cr func29 c29 r acf agl [] 18 ntmps29 [.tmp 2,.tmp 3] hI fun call hc=>?_
 cbv
 refine ab h fun y1 cN h=>⟨_,_,_,us hc (cT hI hM cN),?_⟩;cbv
 refine si h (fun h=>by cbv;cases h;exact fin) fun h=>?_
 cbv
 refine ab h fun y2 rT h=>⟨_,_,_,us hc (rI hI hM rT),?_⟩;cbv
 refine letE h fun l3 Og h=>⟨_,⟨rfl,iw (enc:=an) hI hM Og rfl⟩,?_⟩;cbv
 refine ab h fun u4 qu4 h=>?_
 (first|refine⟨⟨rfl,rfl,rfl,aT hI hM qu4,rfl,(by have hq:=dz (enc:=an) hM (fun _=>rfl) y2;rw[dU.eq_def]at hq;exact hq)⟩,?_⟩|refine⟨⟨aT hI hM qu4,(by have hq:=dz (enc:=an) hM (fun _=>rfl) y2;rw[dU.eq_def]at hq;exact hq)⟩,?_⟩)
 cbv
 refine letE h fun n5 Xm h=>⟨_,ak hI hM Xm,?_⟩;cbv
 refine ab h fun j6 qj6 h=>⟨_,agE (enc:=an) hI hM qj6 (by decide),?_⟩;cbv
 refine ab h fun y7 JL h=>⟨fun _=>rfl,(.sl r (M.map an y7)),g,nx,fun ρ=>by cbv;refine us hc ((xk (s:=ρ) hI hM JL (r:=r)).wk ?_);exact⟨(amx hM y2 j6),trivial⟩,?_⟩;cbv
 cbv;cases h;exact fin
 include hI hM
theorem nW{a0:ah}{a1:ByteArray}{v:Int}(h:nB I M n a0 a1=some v):
  bO 64 [(.agg (ba M r a0)),(vs a1)] (vi v) g nx:=by
 refine cr func64 c64 r abO afU [] 22 ntmps64 [.tmp 4] hI fun call hc=>?_
 cbv
 refine lp h (fun z1=>[(5,(vi z1))]) (fun z1=>[]) fun ju m1 aS z1 h=>?_
 dsimp only[yS]at h
 cbv
 refine letE h fun n2 oQ h=>⟨_,ak hI hM oQ,?_⟩;cbv
 refine si h (fun h=>?_) fun h=>by cbv;cases h;exact fin
 cbv
 refine ab h fun x3 iJ h=>⟨_,ai hM iJ rfl,?_⟩;cbv
 refine si h (fun h=>by cbv;cases h;exact fin) fun h=>?_
 cbv
 exact bN (aS _ _ h)
 include hI hM
theorem IB{a0:Int}{a1:Int}{a2:Int}{v:Bool}(h:As I M n a0 a1 a2=some v):
  bO 151 [(vi a0),(vi a1),(vi a2)] (vb v) g nx:=have _:=hM;by
 obtain⟨r,_⟩: ∃x:Nat,x=0:=⟨_,rfl⟩
 refine cr func151 aqt r Wc YD [] 15 ntmps151 [.tmp 6] hI fun call hc=>?_
 cbv;cases h;exact fin
 include hI hM
theorem qK{a0:ByteArray}{v:Bool}(h:lE I M n a0=some v):
  bO 112 [(vs a0)] (vb v) g nx:=by
 obtain⟨r,_⟩: ∃x:Nat,x=0:=⟨_,rfl⟩
 refine cr func112 aqW r WN Zd [] 23 ntmps112 [.tmp 2] hI fun call hc=>?_
 cbv
 refine letE h fun n1 cH h=>⟨_,gf hI cH,?_⟩;cbv
 refine ab h fun y2 rT h=>⟨_,_,_,us hc (IB hI hM rT),?_⟩;cbv
 refine si h (fun h=>by cbv;cases h;exact fin) fun h=>?_
 cbv
 refine lp h (fun z3=>[(3,(vi z3))]) (fun z3=>[]) fun ju m1 aS z3 h=>?_
 dsimp only[nU]at h
 cbv
 refine letE h fun n4 My h=>⟨_,gf hI My,?_⟩;cbv
 refine si h (fun h=>?_) fun h=>by cbv;cases h;exact fin
 cbv
 refine ab h fun x5 rU h=>⟨_,mY rU,?_⟩;cbv
 refine ab h fun x6 wP h=>⟨_,fun hp=>mY (aw wP hp.1),?_⟩;cbv
 refine si h (fun h=>by cbv;cases h;exact fin) fun h=>?_
 cbv
 exact bN (aS _ _ h)
 include hI hM
theorem dA{a0:Int}{a1:Int}{a2:Int}{v:Bool}(h:eg I M n a0 a1 a2=some v):
  bO 62 [(vi a0),(vi a1),(vi a2)] (vb v) g nx:=have _:=hM;by
 obtain⟨r,_⟩: ∃x:Nat,x=0:=⟨_,rfl⟩
 refine cr func62 c62 r abQ afW [] 15 ntmps62 [.tmp 6] hI fun call hc=>?_
 cbv;cases h;exact fin
 include hI hM
theorem xm{a0:aj}{v:Int}(h:jy I M n a0=some v):
  bO 63 [(.agg (ao M r a0))] (vi v) g nx:=by
 refine cr func63 c63 r abP afV [] 150 ntmps63 [.tmp 2] hI fun call hc=>?_
 cbv
 refine letE h fun n1 cH h=>⟨_,ak hI hM cH,?_⟩;cbv
 refine ab h fun y2 rT h=>⟨_,_,_,us hc (dA hI hM rT),?_⟩;cbv
 refine si h (fun h=>by cbv;cases h;exact fin) fun h=>?_
 cbv
 refine lp h (fun z3=>[(3,(vi z3))]) (fun z3=>[]) fun ju m1 aS z3 h=>?_
 dsimp only[eC]at h
 cbv
 refine letE h fun n4 My h=>⟨_,ak hI hM My,?_⟩;cbv
 refine si h (fun h=>?_) fun h=>?_
 ·cbv
  refine ab h fun x5 rU h=>⟨_,ai hM rU rfl,?_⟩;cbv
  refine letE h fun n6 JQ h=>⟨_,ak hI hM JQ,?_⟩;cbv
  refine ab h fun y7 JL h=>⟨_,_,_,us hc (dA hI hM JL),?_⟩;cbv
  refine si h (fun h=>by cbv;cases h;exact fin) fun h=>?_
  cbv
  exact bN (aS _ _ h)
 cbv
 refine ab h fun y9 JK h=>⟨_,_,_,us hc (dA hI hM JK),?_⟩;cbv
 refine si h (fun h=>by cbv;cases h;exact fin) fun h=>?_
 cbv
 refine lp h (fun yF=>[(4,(vi yF))]) (fun yF=>[]) fun Bc m2 cI yF h=>?_
 dsimp only[eB]at h
 cbv
 refine letE h fun uU xU h=>⟨_,ak hI hM xU,?_⟩;cbv
 refine si h (fun h=>?_) fun h=>?_
 ·cbv
  refine ab h fun u9 nf h=>⟨_,ai hM nf rfl,?_⟩;cbv
  refine ab h fun pW tM h=>⟨_,_,_,us hc (dA hI hM tM),?_⟩;cbv
  refine si h (fun h=>by cbv;cases h;exact fin) fun h=>?_
  cbv
  exact bN (cI _ _ h)
 cbv
 refine ab h fun Da HK h=>⟨_,_,_,us hc (qK hI hM HK),?_⟩;cbv
 refine si h (fun h=>by cbv;cases h;exact fin) fun h=>?_
 cbv
 refine lp h (fun jW=>[(5,(vi jW))]) (fun jW=>[]) fun NJ m3 iI jW h=>?_
 dsimp only[ez]at h
 cbv
 refine letE h fun TC MA h=>⟨_,ak hI hM MA,?_⟩;cbv
 refine si h (fun h=>?_) fun h=>?_
 ·cbv
  refine ab h fun xb Mr h=>⟨_,ai hM Mr rfl,?_⟩;cbv
  refine ab h fun Hd yU h=>⟨_,fun hp=>ai hM (aw yU hp.1) rfl,?_⟩;cbv
  refine ab h fun NT Mk h=>⟨_,fun hp=>us hc (qK hI hM (aw Mk hp.1)),?_⟩;cbv
  refine si h (fun h=>by cbv;cases h;exact fin) fun h=>?_
  cbv
  exact bN (iI _ _ h)
 cbv
 refine lp h (fun B7=>[(6,(vi B7))]) (fun B7=>[]) fun Q5 m4 qC B7 h=>?_
 dsimp only[ey]at h
 cbv
 refine letE h fun XA PT h=>⟨_,ak hI hM PT,?_⟩;cbv
 refine si h (fun h=>?_) fun h=>?_
 ·cbv
  refine ab h fun FT Sa h=>⟨_,ai hM Sa rfl,?_⟩;cbv
  refine⟨_,ak hI hM PT,?_⟩;cbv
  refine si h (fun h=>by cbv;cases h;exact fin) fun h=>?_
  cbv
  exact bN (qC _ _ h)
 cbv
 refine lp h (fun C8=>[(8,(vi C8))]) (fun C8=>[]) fun Q4 m5 qB C8 h=>?_
 dsimp only[dt]at h
 cbv
 refine letE h fun n27 anb h=>⟨_,ak hI hM anb,?_⟩;cbv
 refine si h (fun h=>?_) fun h=>by cbv;cases h;exact fin
 cbv
 refine lp h (fun IZ=>[(9,(vi IZ))]) (fun IZ=>[]) fun VL m6 qA IZ h=>?_
 as_aux_lemma=>
  dsimp only[ew]at h
  cbv
  refine si h (fun h=>?_) fun h=>?_
  ·cbv
   refine ab h fun pM Mp h=>?_
   refine ab h fun fu R9 h=>?_
   refine ab h fun x31 amS h=>?_
   refine ab h fun VU R8 h=>?_
   apply Exists.intro;refine⟨?_,_,rfl,?_⟩
   ·cbv
    refine⟨_,ai hM Mp rfl,?_⟩;cbv
    refine⟨_,ai hM R9 rfl,?_⟩;cbv
    refine⟨_,fun hp=>ai hM (aw amS hp.1) rfl,?_⟩;cbv
    refine⟨_,fun hp=>ai hM (aw R8 hp.1) rfl,?_⟩;cbv
    all_goals exact .inl rfl
   cbv
   refine si h (fun h=>by cbv;cases h;exact fin) fun h=>?_
   cbv
   exact bN (qA _ _ h)
  cbv
  exact bN (qB _ _ h)
 include hI hM
theorem FE{a0:List aL}{v:List Bool}(h:tL I M n a0=some v):
  bO 113 [(.sl r (M.map (aZ M r) a0))] (.sl r (M.map cA v)) g nx:=by
 refine cr func113 aqV r WM Zc [] 56 ntmps113 [.tmp 2] hI fun call hc=>?_
 cbv
 refine lp h (fun(l1,z2)=>[(3,(.gs r (.l 54) (M.map cA l1))),(4,(vi z2))]) (fun _=>[]) fun ju m1 aS st h=>?_
 obtain⟨l1,z2⟩:=st
 dsimp only[ml]at h
 cbv
 refine letE h fun n3 qn3 h=>⟨_,ak hI hM qn3,?_⟩;cbv
 refine si h (fun h=>?_) fun h=>by cbv;cases h;exact fin
 cbv
 refine ab h fun x4 qh h=>⟨_,ai hM qh rfl,?_⟩;cbv
 refine lp h (fun(z5,z6)=>[(5,(vb z5)),(6,(vi z6))]) (fun _=>[]) fun Bc m2 cI st h=>?_
 obtain⟨z5,z6⟩:=st
 dsimp only[jA]at h
 cbv
 refine ab h fun x7 BA h=>⟨_,ai hM BA rfl,?_⟩;cbv
 refine letE h fun n8 PR h=>⟨_,ak hI hM PR,?_⟩;cbv
 refine si h (fun h=>?_) fun h=>?_
 ·cbv
  refine ab h fun x9 Xj h=>⟨_,fun hp=>ai hM (aw Xj hp.1) rfl,?_⟩;cbv
  refine ab h fun yC xS h=>⟨_,fun hp=>ai hM (aw (aw xS hp.1) hp.2.1) rfl,?_⟩;cbv
  refine ab h fun FV xf h=>⟨_,fun hp=>ai hM (aw (aw xf hp.1) hp.2.1) rfl,?_⟩;cbv
  refine ab h fun u9 nf h=>⟨_,fun hp=>ai hM (aw (aw nf hp.1) hp.2.1) rfl,?_⟩;cbv
  exact bN (cI _ _ h)
 cbv
 refine⟨_,bJ (enc:=cA) (x:=z5) hM (af _) rfl,?_⟩;cbv
 refine ab h fun xh SY h=>⟨_,au (enc:=cA) hI hM SY (fun _=>rfl) rfl (fun _=>rfl),?_⟩;cbv
 exact bN (aS _ _ h)
 include hI hM
theorem A6{a0:ah}{a1:aj}{a2:ae}{a3:Int}{v:Int}(h:kB I M n a0 a1 a2 a3=some v):
  bO 65 [(.agg (ba M r a0)),(.agg (ao M r a1)),(.agg (az M r a2)),(vi a3)] (vi v) g nx:=by
 refine cr func65 c65 r abN afT [] 149 ntmps65 [.tmp 8] hI fun call hc=>?_
 cbv
 refine ab h fun x1 qx1 h=>⟨_,ai hM qx1 rfl,?_⟩;cbv
 refine ab h fun y2 rT h=>⟨_,_,_,us hc (dA hI hM rT),?_⟩;cbv
 refine si h (fun h=>by cbv;cases h;exact fin) fun h=>?_
 cbv
 refine ab h fun y3 HJ h=>⟨_,fun hp=>us hc (qK hI hM (aw (aw HJ hp.1) hp.2.1)),?_⟩;cbv
 refine si h (fun h=>by cbv;cases h;exact fin) fun h=>?_
 cbv
 refine ab h fun y4 lb h=>⟨_,fun hp=>us hc (dA hI hM (aw lb hp.1)),?_⟩;cbv
 refine ab h fun y5 HG h=>⟨_,fun hp=>us hc (dA hI hM (aw (aw HG hp.1) hp.2.1)),?_⟩;cbv
 refine si h (fun h=>by cbv;cases h;exact fin) fun h=>?_
 cbv
 refine letE h fun n6 JQ h=>⟨_,ak hI hM JQ,?_⟩;cbv
 refine⟨_,ak hI hM JQ,?_⟩;cbv
 refine si h (fun h=>by cbv;cases h;exact fin) fun h=>?_
 cbv
 refine lp h (fun z7=>[(10,(vi z7))]) (fun z7=>[]) fun ju m1 aS z7 h=>?_
 dsimp only[gY]at h
 cbv
 refine letE h fun n8 PR h=>⟨_,ak hI hM PR,?_⟩;cbv
 refine si h (fun h=>?_) fun h=>?_
 ·cbv
  refine ab h fun x9 Xj h=>⟨_,ai hM Xj rfl,?_⟩;cbv
  refine ab h fun qO oT h=>⟨_,_,_,us hc (dA hI hM oT),?_⟩;cbv
  refine si h (fun h=>by cbv;cases h;exact fin) fun h=>?_
  cbv
  exact bN (aS _ _ h)
 cbv
 refine si h (fun h=>by cbv;cases h;exact fin) fun h=>?_
 cbv
 refine ab h fun CJ HM h=>⟨_,_,_,us hc (nW hI hM HM),?_⟩;cbv
 refine si h (fun h=>by cbv;cases h;exact fin) fun h=>?_
 cbv
 refine letE h fun n13 anh h=>?_
 refine ab h fun vf HR h=>?_
 apply Exists.intro;refine⟨?_,_,rfl,?_⟩
 ·cbv
  refine⟨_,ak hI hM anh,?_⟩;cbv
  refine⟨_,ai hM HR rfl,?_⟩;cbv
  all_goals exact .inl rfl
 cbv
 refine si h (fun h=>by cbv;cases h;exact fin) fun h=>?_
 cbv
 refine ab h fun xh SY h=>⟨_,wu hI hM SY (fun _=>rfl),?_⟩;cbv
 refine ab h fun GY Ml h=>⟨_,_,_,us hc (FE hI hM Ml),?_⟩;cbv
 refine lp h (fun EY=>[(13,(vi EY))]) (fun EY=>[]) fun Bc m2 cI EY h=>?_
 dsimp only[gX]at h
 cbv
 refine letE h fun QO SA h=>⟨_,ak hI hM SA,?_⟩;cbv
 refine si h (fun h=>?_) fun h=>by cbv;cases h;exact fin
 cbv
 refine ab h fun Hd yU h=>⟨_,ai hM yU rfl,?_⟩;cbv
 refine ab h fun dR DG h=>⟨_,ai hM DG rfl,?_⟩;cbv
 refine si h (fun h=>by cbv;cases h;exact fin) fun h=>?_
 as_aux_lemma=>
  cbv
  exact bN (cI _ _ h)
 include hI hM
theorem Er{a0:ah}{v:Int}(h:lD I M n a0=some v):
  bO 14 [(.agg (ba M r a0))] (vi v) g nx:=by
 refine cr func14 c14 r ack agq [] 101 ntmps14 [.tmp 2] hI fun call hc=>?_
 cbv
 refine letE h fun n1 cH h=>⟨_,ak hI hM cH,?_⟩;cbv
 refine ab h fun y2 rT h=>⟨_,_,_,us hc (dA hI hM rT),?_⟩;cbv
 refine si h (fun h=>by cbv;cases h;exact fin) fun h=>?_
 cbv
 refine lp h (fun z3=>[(3,(vi z3))]) (fun z3=>[]) fun ju m1 aS z3 h=>?_
 dsimp only[kG]at h
 cbv
 refine letE h fun n4 My h=>⟨_,ak hI hM My,?_⟩;cbv
 refine si h (fun h=>?_) fun h=>?_
 ·cbv
  refine ab h fun x5 rU h=>⟨_,ai hM rU rfl,?_⟩;cbv
  refine ab h fun y6 yT h=>⟨_,_,_,us hc (xm hI hM yT),?_⟩;cbv
  refine si h (fun h=>by cbv;cases h;exact fin) fun h=>?_
  cbv
  exact bN (aS _ _ h)
 cbv
 refine lp h (fun z8=>[(5,(vi z8))]) (fun z8=>[]) fun Bc m2 cI z8 h=>?_
 dsimp only[kF]at h
 cbv
 refine letE h fun n9 qn9 h=>⟨_,ak hI hM qn9,?_⟩;cbv
 refine si h (fun h=>?_) fun h=>?_
 ·cbv
  refine ab h fun yC xS h=>?_
  refine ab h fun sm uQ h=>?_
  apply Exists.intro;refine⟨?_,_,rfl,?_⟩
  ·cbv
   refine⟨_,ai hM xS rfl,?_⟩;cbv
   refine⟨?_,trivial⟩
   refine⟨_,_,_,us hc (nW hI hM uQ),?_⟩;cbv
   all_goals exact .inl rfl
  cbv
  refine si h (fun h=>by cbv;cases h;exact fin) fun h=>?_
  cbv
  exact bN (cI _ _ h)
 cbv
 refine lp h (fun nu=>[(6,(vi nu))]) (fun nu=>[]) fun NJ m3 iI nu h=>?_
 dsimp only[kE]at h
 cbv
 refine letE h fun Kg MB h=>⟨_,ak hI hM MB,?_⟩;cbv
 refine si h (fun h=>?_) fun h=>by cbv;cases h;exact fin
 cbv
 refine lp h (fun uP=>[(7,(vi uP)),(52,.any)]) (fun uP=>[]) fun Q5 m4 qC uP h=>?_
 dsimp only[kD]at h
 cbv
 refine ab h fun x16 Sc h=>⟨_,ai hM Sc rfl,?_⟩;cbv
 refine letE h fun TC MA h=>⟨_,ak hI hM MA,?_⟩;cbv
 refine si h (fun h=>?_) fun h=>?_
 ·as_aux_lemma=>
   cbv
   refine⟨_,ai hM Sc rfl,?_⟩;cbv
   refine ab h fun xb Mr h=>⟨_,ai hM Mr rfl,?_⟩;cbv
   refine lp h (fun eh=>[(9,(vi eh))]) (fun eh=>[]) fun Q4 m5 qB eh h=>?_
   dsimp only[kC]at h
   cbv
   refine letE h fun n20 ang h=>⟨_,ak hI hM ang,?_⟩;cbv
   refine si h (fun h=>?_) fun h=>?_
   ·cbv
    refine ab h fun wJ Sb h=>?_
    refine ab h fun QN RW h=>?_
    apply Exists.intro;refine⟨?_,_,rfl,?_⟩
    ·cbv
     refine⟨_,ai hM Sb rfl,?_⟩;cbv
     refine⟨?_,trivial⟩
     refine⟨_,_,_,us hc (A6 hI hM RW),?_⟩;cbv
     all_goals exact .inl rfl
    cbv
    refine si h (fun h=>by cbv;cases h;exact fin) fun h=>?_
    cbv
    exact bN (qB _ _ h)
   cbv
   refine letE h fun n24 ane h=>⟨_,ak hI hM ane,?_⟩;cbv
   refine ab h fun Rc RV h=>⟨_,_,_,us hc (dA hI hM RV),?_⟩;cbv
   refine si h (fun h=>by cbv;cases h;exact fin) fun h=>?_
   cbv
   exact bN (qC _ _ h)
 cbv
 exact bN (iI _ _ h)
 include hI hM
theorem xl{a0:ae}{a1:ae}{v:Bool}(h:jx I M n a0 a1=some v):
  bO 69 [(.agg (az M p a0)),(.agg (az M r a1))] (vb v) g nx:=by
 refine cr func69 c69 r abK afQ [] 100 ntmps69 [.tmp 4] hI fun call hc=>?_
 cbv
 refine letE h fun n1 cH h=>⟨_,ak hI hM cH,?_⟩;cbv
 refine letE h fun n2 oQ h=>⟨_,ak hI hM oQ,?_⟩;cbv
 refine si h (fun h=>by cbv;cases h;exact fin) fun h=>?_
 cbv
 refine lp h (fun z3=>[(5,(vi z3)),(36,.any)]) (fun z3=>[]) fun ju m1 aS z3 h=>?_
 dsimp only[gp]at h
 cbv
 refine letE h fun n4 My h=>⟨_,ak hI hM My,?_⟩;cbv
 refine si h (fun h=>?_) fun h=>by cbv;cases h;exact fin
 cbv
 refine ab h fun x5 rU h=>?_
 refine ab h fun x6 wP h=>?_
 refine aX none [(6,(.ptr (.s 6) 0)),(7,(.ptr (.s 7) 0))] [(6,.box [(vi x5.kind),(vs x5.name),(vi x5.num),(.sl p (M.map an x5.args))]),(7,.box [(vi x6.kind),(vs x6.name),(vi x6.num),(.sl r (M.map an x6.args))])] g nx ?_ ?_
 ·cbv
  refine⟨_,ai hM rU rfl,?_⟩;cbv
  refine⟨?_,?_⟩
  ·as_aux_lemma=>
    refine⟨_,ai hM wP rfl,?_⟩;cbv
    refine⟨?_,?_⟩
    ·refine⟨?_,?_⟩
     ·refine⟨?_,trivial⟩
      refine⟨?_,trivial⟩
      refine⟨?_,trivial⟩
      all_goals first|exact Or.inl rfl|exact bB
     refine⟨?_,trivial⟩
     refine⟨?_,trivial⟩
     refine⟨?_,trivial⟩
     refine⟨?_,trivial⟩
     all_goals first|exact Or.inl rfl|exact bB
    refine⟨?_,?_⟩
    ·refine⟨?_,?_⟩
     ·refine⟨?_,trivial⟩
      refine⟨?_,trivial⟩
      refine⟨?_,trivial⟩
      all_goals first|exact Or.inl rfl|exact bB
     refine⟨?_,trivial⟩
     refine⟨?_,?_⟩
     ·refine⟨?_,trivial⟩
      refine⟨?_,trivial⟩
      all_goals first|exact Or.inl rfl|exact bB
     refine⟨?_,trivial⟩
     refine⟨?_,trivial⟩
     all_goals first|exact Or.inl rfl|exact bB
    refine⟨?_,trivial⟩
    refine⟨?_,?_⟩
    ·refine⟨?_,trivial⟩
     refine⟨?_,trivial⟩
     refine⟨?_,trivial⟩
     all_goals first|exact Or.inl rfl|exact bB
    refine⟨?_,trivial⟩
    refine⟨?_,?_⟩
    ·refine⟨?_,trivial⟩
     refine⟨?_,trivial⟩
     all_goals first|exact Or.inl rfl|exact bB
    refine⟨?_,trivial⟩
    refine⟨?_,trivial⟩
    all_goals first|exact Or.inl rfl|exact bB
  refine⟨?_,?_⟩
  ·refine⟨?_,?_⟩
   ·refine⟨_,ai hM wP rfl,?_⟩;cbv
    refine⟨?_,?_⟩
    ·refine⟨?_,trivial⟩
     refine⟨?_,trivial⟩
     refine⟨?_,trivial⟩
     all_goals first|exact Or.inl rfl|exact bB
    refine⟨?_,trivial⟩
    refine⟨?_,?_⟩
    ·refine⟨?_,trivial⟩
     refine⟨?_,trivial⟩
     all_goals first|exact Or.inl rfl|exact bB
    refine⟨?_,trivial⟩
    refine⟨?_,trivial⟩
    all_goals first|exact Or.inl rfl|exact bB
   refine⟨?_,trivial⟩
   refine⟨?_,?_⟩
   ·refine⟨_,ai hM wP rfl,?_⟩;cbv
    refine⟨?_,?_⟩
    ·refine⟨?_,trivial⟩
     refine⟨?_,trivial⟩
     all_goals first|exact Or.inl rfl|exact bB
    refine⟨?_,trivial⟩
    refine⟨?_,trivial⟩
    all_goals first|exact Or.inl rfl|exact bB
   refine⟨?_,trivial⟩
   refine⟨_,ai hM wP rfl,?_⟩;cbv
   refine⟨?_,trivial⟩
   all_goals first|exact Or.inl rfl|exact bB
  refine⟨?_,trivial⟩
  refine⟨?_,?_⟩
  ·refine⟨_,ai hM wP rfl,?_⟩;cbv
   refine⟨?_,?_⟩
   ·refine⟨?_,trivial⟩
    refine⟨?_,trivial⟩
    refine⟨?_,trivial⟩
    all_goals first|exact Or.inl rfl|exact bB
   refine⟨?_,trivial⟩
   refine⟨?_,?_⟩
   ·refine⟨?_,trivial⟩
    refine⟨?_,trivial⟩
    all_goals first|exact Or.inl rfl|exact bB
   refine⟨?_,trivial⟩
   refine⟨?_,trivial⟩
   all_goals first|exact Or.inl rfl|exact bB
  refine⟨?_,trivial⟩
  refine⟨?_,?_⟩
  ·refine⟨_,ai hM wP rfl,?_⟩;cbv
   refine⟨?_,?_⟩
   ·refine⟨?_,trivial⟩
    refine⟨?_,trivial⟩
    all_goals first|exact Or.inl rfl|exact bB
   refine⟨?_,trivial⟩
   refine⟨?_,trivial⟩
   all_goals first|exact Or.inl rfl|exact bB
  refine⟨?_,trivial⟩
  refine⟨_,ai hM wP rfl,?_⟩;cbv
  refine⟨?_,trivial⟩
  all_goals first|exact Or.inl rfl|exact bB
 cbv
 refine letE h fun n7 Xl h=>⟨_,ak hI hM Xl,?_⟩;cbv
 refine letE h fun n8 PR h=>⟨_,ak hI hM PR,?_⟩;cbv
 refine si h (fun h=>by cbv;cases h;exact fin) fun h=>?_
 cbv
 refine lp h (fun z9=>[(8,(vi z9))]) (fun z9=>[]) fun Bc m2 cI z9 h=>?_
 dsimp only[gn]at h
 cbv
 refine letE h fun Kh HV h=>⟨_,ak hI hM HV,?_⟩;cbv
 refine si h (fun h=>?_) fun h=>?_
 ·cbv
  refine ab h fun FV xf h=>?_
  refine ab h fun u9 nf h=>?_
  apply Exists.intro;refine⟨?_,_,rfl,?_⟩
  ·cbv
   refine⟨_,ai hM xf rfl,?_⟩;cbv
   refine⟨_,ai hM nf rfl,?_⟩;cbv
   all_goals exact .inl rfl
  cbv
  refine si h (fun h=>by cbv;cases h;exact fin) fun h=>?_
  cbv
  exact bN (cI _ _ h)
 cbv
 exact bN (aS _ _ h)
 include hI hM
theorem aQ{a0:ah}{a1:ah}{v:Bool}(h:aH I M n a0 a1=some v):
  bO 18 [(.agg (ba M p a0)),(.agg (ba M r a1))] (vb v) g nx:=by
 refine cr func18 c18 r acj agp [] 73 ntmps18 [.tmp 4] hI fun call hc=>?_
 cbv
 refine letE h fun n1 cH h=>⟨_,ak hI hM cH,?_⟩;cbv
 refine letE h fun n2 oQ h=>⟨_,ak hI hM oQ,?_⟩;cbv
 refine si h (fun h=>by cbv;cases h;exact fin) fun h=>?_
 cbv
 refine lp h (fun z3=>[(5,(vi z3)),(15,.any)]) (fun z3=>[]) fun ju m1 aS z3 h=>?_
 dsimp only[pI]at h
 cbv
 refine letE h fun n4 My h=>⟨_,ak hI hM My,?_⟩;cbv
 refine si h (fun h=>?_) fun h=>by cbv;cases h;exact fin
 cbv
 refine ab h fun x5 rU h=>?_
 refine ab h fun x6 wP h=>?_
 refine aX none [(6,(.ptr (.s 6) 0)),(7,(.ptr (.s 7) 0))] [(6,.box [(vs x5.name),(vi x5.arity),(.sl p (M.map (az M p) x5.ag))]),(7,.box [(vs x6.name),(vi x6.arity),(.sl r (M.map (az M r) x6.ag))])] g nx ?_ ?_
 ·cbv
  refine⟨_,ai hM rU rfl,?_⟩;cbv
  refine⟨?_,?_⟩
  ·as_aux_lemma=>
    refine⟨_,ai hM wP rfl,?_⟩;cbv
    refine⟨?_,?_⟩
    ·refine⟨?_,?_⟩
     ·refine⟨?_,trivial⟩
      refine⟨?_,trivial⟩
      refine⟨?_,trivial⟩
      all_goals first|exact Or.inl rfl|exact bB
     refine⟨?_,trivial⟩
     refine⟨?_,trivial⟩
     refine⟨?_,trivial⟩
     refine⟨?_,trivial⟩
     all_goals first|exact Or.inl rfl|exact bB
    refine⟨?_,?_⟩
    ·refine⟨?_,?_⟩
     ·refine⟨?_,trivial⟩
      refine⟨?_,trivial⟩
      refine⟨?_,trivial⟩
      all_goals first|exact Or.inl rfl|exact bB
     refine⟨?_,trivial⟩
     refine⟨?_,?_⟩
     ·refine⟨?_,trivial⟩
      refine⟨?_,trivial⟩
      all_goals first|exact Or.inl rfl|exact bB
     refine⟨?_,trivial⟩
     refine⟨?_,trivial⟩
     all_goals first|exact Or.inl rfl|exact bB
    refine⟨?_,trivial⟩
    refine⟨?_,?_⟩
    ·refine⟨?_,trivial⟩
     refine⟨?_,trivial⟩
     refine⟨?_,trivial⟩
     all_goals first|exact Or.inl rfl|exact bB
    refine⟨?_,trivial⟩
    refine⟨?_,?_⟩
    ·refine⟨?_,trivial⟩
     refine⟨?_,trivial⟩
     all_goals first|exact Or.inl rfl|exact bB
    refine⟨?_,trivial⟩
    refine⟨?_,trivial⟩
    all_goals first|exact Or.inl rfl|exact bB
  refine⟨?_,?_⟩
  ·refine⟨?_,?_⟩
   ·refine⟨_,ai hM wP rfl,?_⟩;cbv
    refine⟨?_,?_⟩
    ·refine⟨?_,trivial⟩
     refine⟨?_,trivial⟩
     refine⟨?_,trivial⟩
     all_goals first|exact Or.inl rfl|exact bB
    refine⟨?_,trivial⟩
    refine⟨?_,?_⟩
    ·refine⟨?_,trivial⟩
     refine⟨?_,trivial⟩
     all_goals first|exact Or.inl rfl|exact bB
    refine⟨?_,trivial⟩
    refine⟨?_,trivial⟩
    all_goals first|exact Or.inl rfl|exact bB
   refine⟨?_,trivial⟩
   refine⟨?_,?_⟩
   ·refine⟨_,ai hM wP rfl,?_⟩;cbv
    refine⟨?_,?_⟩
    ·refine⟨?_,trivial⟩
     refine⟨?_,trivial⟩
     all_goals first|exact Or.inl rfl|exact bB
    refine⟨?_,trivial⟩
    refine⟨?_,trivial⟩
    all_goals first|exact Or.inl rfl|exact bB
   refine⟨?_,trivial⟩
   refine⟨_,ai hM wP rfl,?_⟩;cbv
   refine⟨?_,trivial⟩
   all_goals first|exact Or.inl rfl|exact bB
  refine⟨?_,trivial⟩
  refine⟨?_,?_⟩
  ·refine⟨_,ai hM wP rfl,?_⟩;cbv
   refine⟨?_,?_⟩
   ·refine⟨?_,trivial⟩
    refine⟨?_,trivial⟩
    refine⟨?_,trivial⟩
    all_goals first|exact Or.inl rfl|exact bB
   refine⟨?_,trivial⟩
   refine⟨?_,?_⟩
   ·refine⟨?_,trivial⟩
    refine⟨?_,trivial⟩
    all_goals first|exact Or.inl rfl|exact bB
   refine⟨?_,trivial⟩
   refine⟨?_,trivial⟩
   all_goals first|exact Or.inl rfl|exact bB
  refine⟨?_,trivial⟩
  refine⟨?_,?_⟩
  ·refine⟨_,ai hM wP rfl,?_⟩;cbv
   refine⟨?_,?_⟩
   ·refine⟨?_,trivial⟩
    refine⟨?_,trivial⟩
    all_goals first|exact Or.inl rfl|exact bB
   refine⟨?_,trivial⟩
   refine⟨?_,trivial⟩
   all_goals first|exact Or.inl rfl|exact bB
  refine⟨?_,trivial⟩
  refine⟨_,ai hM wP rfl,?_⟩;cbv
  refine⟨?_,trivial⟩
  all_goals first|exact Or.inl rfl|exact bB
 cbv
 refine letE h fun n7 Xl h=>⟨_,ak hI hM Xl,?_⟩;cbv
 refine letE h fun n8 PR h=>⟨_,ak hI hM PR,?_⟩;cbv
 refine si h (fun h=>by cbv;cases h;exact fin) fun h=>?_
 cbv
 refine lp h (fun z9=>[(8,(vi z9))]) (fun z9=>[]) fun Bc m2 cI z9 h=>?_
 dsimp only[pH]at h
 cbv
 refine letE h fun Kh HV h=>⟨_,ak hI hM HV,?_⟩;cbv
 refine si h (fun h=>?_) fun h=>?_
 ·cbv
  refine ab h fun FV xf h=>?_
  refine ab h fun u9 nf h=>?_
  refine ab h fun pW tM h=>?_
  apply Exists.intro;refine⟨?_,_,rfl,?_⟩
  ·cbv
   refine⟨_,ai hM xf rfl,?_⟩;cbv
   refine⟨_,ai hM nf rfl,?_⟩;cbv
   refine⟨?_,trivial⟩
   refine⟨_,_,_,us hc (xl hI hM tM),?_⟩;cbv
   all_goals exact .inl rfl
  cbv
  refine si h (fun h=>by cbv;cases h;exact fin) fun h=>?_
  cbv
  exact bN (cI _ _ h)
 cbv
 exact bN (aS _ _ h)
 include hI hM
theorem FD{a0:ae}{v:List Bool}(h:tK I M n a0=some v):
  bO 130 [(.agg (az M r a0))] (.sl r (M.map cA v)) g nx:=by
 refine cr func130 aqL r Ww YX [] 81 ntmps130 [.tmp 2] hI fun call hc=>?_
 cbv
 refine letE h fun n1 cH h=>⟨_,ak hI hM cH,?_⟩;cbv
 refine ab h fun l2 JV h=>⟨_,_,dw (enc:=cA) hI hM JV (by decide) rfl,?_⟩;cbv
 refine⟨_,ak hI hM cH,?_⟩;cbv
 refine lp h (fun(l3,z4)=>[(4,(vi z4))]) (fun(l3,z4)=>[(9,.arr 1 (M.map cA l3))]) fun ju m1 aS st h=>?_
 obtain⟨l3,z4⟩:=st
 dsimp only[mj]at h
 cbv
 refine si h (fun h=>?_) fun h=>?_
 ·as_aux_lemma=>
   cbv
   refine ab h fun k5 qk5 h=>⟨_,bS hI hM qk5,?_⟩;cbv
   refine ab h fun x6 wP h=>⟨_,_,rfl,bc hM wP,rfl,?_⟩;cbv
   refine ab h fun x7 BA h=>⟨_,fun hp=>ai hM (aw BA hp.1) rfl,?_⟩;cbv
   refine⟨_,bS hI hM qk5,?_⟩;cbv
   refine ab h fun l8 SO h=>⟨_,cF hI hM wP SO (by decide) rfl rfl,?_⟩;cbv
   refine lp h (fun(l9,yF)=>[(5,(vi yF))]) (fun(l9,yF)=>[(9,.arr 1 (M.map cA l9))]) fun Bc m2 cI st h=>?_
   obtain⟨l9,yF⟩:=st
   dsimp only[jz]at h
   cbv
   refine ab h fun FV xf h=>⟨_,ai hM xf rfl,?_⟩;cbv
   refine letE h fun Vw SE h=>⟨_,ak hI hM SE,?_⟩;cbv
   refine si h (fun h=>?_) fun h=>?_
   ·cbv
    refine ab h fun Bi xe h=>?_
    refine ab h fun k14 Xr h=>?_
    refine ab h fun yB Cd h=>?_
    refine ab h fun k16 anH h=>?_
    refine ab h fun qS Aw h=>?_
    refine ab h fun qQ SW h=>?_
    apply Exists.intro;refine⟨?_,_,rfl,?_⟩
    ·cbv
     refine⟨_,ai hM xf rfl,?_⟩;cbv
     refine⟨_,ai hM xe rfl,?_⟩;cbv
     refine⟨_,ai hM xf rfl,?_⟩;cbv
     refine⟨_,ai hM xe rfl,?_⟩;cbv
     refine⟨_,bS hI hM Xr,?_⟩;cbv
     refine⟨_,_,rfl,bc hM Cd,rfl,?_⟩;cbv
     refine⟨_,fun hp=>bS hI hM (aw anH hp.1),?_⟩;cbv
     refine⟨_,_,rfl,fun hp=>bc hM (aw Aw hp.1),rfl,?_⟩;cbv
     refine⟨_,bS hI hM Xr,?_⟩;cbv
     refine⟨?_,trivial⟩
     refine⟨_,cF hI hM Cd SW (by decide) rfl rfl,?_⟩;cbv
     all_goals exact .inl rfl
    cbv
    exact bN (cI _ _ h)
   cbv
   exact bN (aS _ _ h)
 cbv
 refine ab h fun Pv qU h=>?_
 obtain rfl:=Option.some.inj h
 cbv
 all_goals(repeat' apply And.intro)
 all_goals first|trivial|rfl|exact(aE hM)|exact cX hM qU
 include hI hM
theorem kV{a0:aL}{a1:List Int}{v:aL}(h:fa I M n a0 a1=some v):
  bO 131 [(.agg (aZ M r a0)),(.sl s (M.map an a1))] (.agg (aZ M r v)) g nx:=by
 refine cr func131 aqK r Wv YW [] 35 ntmps131 [.cell 4 64] hI fun call hc=>?_
 cbv
 refine lp h (fun(l1,z2)=>[(6,(vi z2))]) (fun(l1,z2)=>[(5,.box [(vi a0.kind),(vs a0.name),(vi a0.num),(.gs r (.c 5 3) (M.map an l1))])]) fun ju m1 aS st h=>?_
 obtain⟨l1,z2⟩:=st
 dsimp only[iY]at h
 cbv
 refine letE h fun n3 qn3 h=>⟨_,ak hI hM qn3,?_⟩;cbv
 refine si h (fun h=>?_) fun h=>by cbv;cases h;exact fin
 cbv
 refine ab h fun x4 qh h=>?_
 refine ab h fun x5 rU h=>?_
 refine ab h fun l6 PW h=>?_
 apply Exists.intro;refine⟨?_,_,rfl,?_⟩
 ·cbv
  refine⟨_,ai hM qh rfl,?_⟩;cbv
  refine⟨_,ai hM rU rfl,?_⟩;cbv
  refine⟨?_,trivial⟩
  refine⟨_,bJ (enc:=an) (x:=x5) hM (af _) rfl,?_⟩;cbv
  refine⟨?_,trivial⟩
  refine⟨_,au (enc:=an) hI hM PW (fun _=>rfl) rfl (fun _=>rfl),?_⟩;cbv
  refine⟨?_,trivial⟩
  all_goals exact .inl rfl
 cbv
 exact bN (aS _ _ h)
 include hI hM
theorem A5{a0:ae}{v:ae}(h:nT I M n a0=some v):
  bO 102 [(.agg (az M r a0))] (.agg (az M r v)) g nx:=by
 refine cr func102 aq3 r WX Zm [] 54 ntmps102 [.cell 2 61] hI fun call hc=>?_
 cbv
 refine ab h fun y1 cN h=>⟨_,_,_,us hc (FD hI hM cN),?_⟩;cbv
 refine letE h fun n2 oQ h=>⟨_,ak hI hM oQ,?_⟩;cbv
 refine ab h fun l3 Og h=>⟨_,_,dw (enc:=an) hI hM Og (by decide) rfl,?_⟩;cbv
 refine lp h (fun(l4,l5,z6)=>[(6,(vi z6))]) (fun(l4,l5,z6)=>[(4,.box [(vs a0.head),(vi a0.kids),(.gs r (.c 4 2) (M.map (aZ M r) l5)),(vi 0)]),(17,.arr 1 (M.map an l4))]) fun ju m1 aS st h=>?_
 obtain⟨l4,l5,z6⟩:=st
 dsimp only[gW]at h
 cbv
 refine letE h fun n7 Xl h=>⟨_,ak hI hM Xl,?_⟩;cbv
 refine si h (fun h=>?_) fun h=>?_
 ·as_aux_lemma=>
   cbv
   refine ab h fun x8 R3 h=>⟨_,ai hM R3 rfl,?_⟩;cbv
   refine si h (fun h=>?_) fun h=>?_
   ·cbv
    refine letE h fun n9 qn9 h=>⟨_,ak hI hM qn9,?_⟩;cbv
    refine ab h fun k10 Th h=>⟨_,bS hI hM Th,?_⟩;cbv
    refine ab h fun FV xf h=>?_
    refine ab h fun iq ad8 h=>⟨_,cF hI hM xf ad8 (by decide) rfl rfl,?_⟩;cbv
    refine ab h fun Bi xe h=>?_
    refine ab h fun u14 Sn h=>?_
    refine ab h fun Da HK h=>?_
    refine ab h fun Na ad7 h=>?_
    apply Exists.intro;refine⟨?_,_,rfl,?_⟩
    ·cbv
     refine⟨_,ai hM xe rfl,?_⟩;cbv
     refine⟨?_,trivial⟩
     refine⟨fun _=>rfl,(.agg (aZ M r Da)),g,nx,fun ρ=>by cbv;refine us hc ((kV (s:=ρ) hI hM HK).wk ?_);exact⟨ay _,(cX hM Sn),trivial⟩,?_⟩;cbv
     refine⟨?_,trivial⟩
     refine⟨_,bJ (enc:=(aZ M r)) (x:=Da) hM (af _) rfl,?_⟩;cbv
     refine⟨?_,trivial⟩
     refine⟨_,au (enc:=(aZ M r)) hI hM ad7 (fun _=>rfl) rfl (fun _=>rfl),?_⟩;cbv
     refine⟨?_,trivial⟩
     all_goals exact .inl rfl
    cbv
    exact bN (aS _ _ h)
   cbv
   exact bN (aS _ _ h)
 cbv
 refine ab h fun k20 anF h=>⟨_,bS hI hM anF,?_⟩;cbv
 refine ab h fun wJ Sb h=>⟨_,_,rfl,bc hM Sb,rfl,?_⟩;cbv
 cbv;cases h;exact fin
 include hI hM
theorem qJ{a0:aL}{v:Bool}(h:lC I M n a0=some v):
  bO 83 [(.agg (aZ M r a0))] (vb v) g nx:=have _:=hM;by
 refine cr func83 c83 r abD afJ [] 11 ntmps83 [.tmp 2] hI fun call hc=>?_
 cbv;cases h;exact fin
 include hI hM
theorem zG{a0:ae}{v:ae}(h:mh I M n a0=some v):
  bO 105 [(.agg (az M r a0))] (.agg (az M r v)) g nx:=by
 refine cr func105 aq0 r WU Zj [] 101 ntmps105 [.cell 2 61] hI fun call hc=>?_
 cbv
 refine letE h fun n1 cH h=>⟨_,ak hI hM cH,?_⟩;cbv
 refine ab h fun l2 JV h=>⟨_,_,dw (enc:=cA) hI hM JV (by decide) rfl,?_⟩;cbv
 refine⟨_,ak hI hM cH,?_⟩;cbv
 refine lp h (fun(l3,z4)=>[(4,(vi z4))]) (fun(l3,z4)=>[(12,.arr 1 (M.map cA l3))]) fun ju m1 aS st h=>?_
 obtain⟨l3,z4⟩:=st
 dsimp only[fK]at h
 cbv
 refine si h (fun h=>?_) fun h=>?_
 ·as_aux_lemma=>
   cbv
   refine lp h (fun(l5,z6)=>[(5,(vi z6))]) (fun(l5,z6)=>[(12,.arr 1 (M.map cA l5))]) fun Bc m2 cI st h=>?_
   obtain⟨l5,z6⟩:=st
   dsimp only[ef]at h
   cbv
   refine ab h fun x7 BA h=>⟨_,ai hM BA rfl,?_⟩;cbv
   refine letE h fun n8 PR h=>⟨_,ak hI hM PR,?_⟩;cbv
   refine si h (fun h=>?_) fun h=>?_
   ·cbv
    refine⟨_,ai hM BA rfl,?_⟩;cbv
    refine ab h fun y9 JK h=>⟨_,_,_,us hc (qJ hI hM JK),?_⟩;cbv
    refine ab h fun yC xS h=>⟨_,fun hp=>ai hM (aw xS hp.1) rfl,?_⟩;cbv
    refine ab h fun k11 Cf h=>⟨_,fun hp=>bS hI hM (aw (aw Cf hp.1) hp.2.1),?_⟩;cbv
    refine ab h fun u9 nf h=>⟨_,_,rfl,fun hp=>bc hM (aw (aw nf hp.1) hp.2.1),rfl,?_⟩;cbv
    refine si h (fun h=>?_) fun h=>?_
    ·cbv
     refine⟨_,ai hM BA rfl,?_⟩;cbv
     refine ab h fun Bi xe h=>⟨_,ai hM xe rfl,?_⟩;cbv
     refine ab h fun k14 Xr h=>⟨_,bS hI hM Xr,?_⟩;cbv
     refine ab h fun yB Cd h=>?_
     refine ab h fun Na ad7 h=>⟨_,cF hI hM Cd ad7 (by decide) rfl rfl,?_⟩;cbv
     exact bN (cI _ _ h)
    cbv
    exact bN (cI _ _ h)
   cbv
   exact bN (aS _ _ h)
 cbv
 refine lp h (fun(vQ,B7)=>[(7,(vi B7))]) (fun(vQ,B7)=>[(6,.box [(vs a0.head),(vi a0.kids),(.gs r (.c 6 2) (M.map (aZ M r) vQ)),(vi a0.result)])]) fun NJ m3 iI st h=>?_
 obtain⟨vQ,B7⟩:=st
 dsimp only[fJ]at h
 cbv
 refine letE h fun XA PT h=>⟨_,ak hI hM PT,?_⟩;cbv
 refine si h (fun h=>?_) fun h=>by cbv;cases h;exact fin
 cbv
 refine ab h fun FT Sa h=>⟨_,ai hM Sa rfl,?_⟩;cbv
 refine ab h fun k25 anD h=>⟨_,fun hp=>bS hI hM (aw anD hp.1),?_⟩;cbv
 refine ab h fun x26 ac6 h=>⟨_,_,rfl,fun hp=>bc hM (aw ac6 hp.1),rfl,?_⟩;cbv
 refine si h (fun h=>?_) fun h=>?_
 ·cbv
  refine⟨_,bJ (enc:=(aZ M r)) (x:=(⟨5,FT.name,FT.num,FT.args⟩:aL)) hM (af _) rfl,?_⟩;cbv
  refine ab h fun py ad5 h=>⟨_,au (enc:=(aZ M r)) hI hM ad5 (fun _=>rfl) rfl (fun _=>rfl),?_⟩;cbv
  exact bN (iI _ _ h)
 cbv
 refine⟨_,bJ (enc:=(aZ M r)) (x:=FT) hM (af _) rfl,?_⟩;cbv
 refine ab h fun tY ank h=>⟨_,au (enc:=(aZ M r)) hI hM ank (fun _=>rfl) rfl (fun _=>rfl),?_⟩;cbv
 exact bN (iI _ _ h)
 include hI hM
theorem v3{a0:ae}{v:Bool}(h:vr I M n a0=some v):
  bO 114 [(.agg (az M r a0))] (vb v) g nx:=by
 refine cr func114 aqU r WL Zb [] 17 ntmps114 [.tmp 2] hI fun call hc=>?_
 cbv
 refine lp h (fun z1=>[(3,(vi z1))]) (fun z1=>[]) fun ju m1 aS z1 h=>?_
 dsimp only[xx]at h
 cbv
 refine letE h fun n2 oQ h=>⟨_,ak hI hM oQ,?_⟩;cbv
 refine si h (fun h=>?_) fun h=>by cbv;cases h;exact fin
 cbv
 refine ab h fun x3 iJ h=>⟨_,ai hM iJ rfl,?_⟩;cbv
 refine ab h fun y4 lb h=>⟨_,_,_,us hc (qJ hI hM lb),?_⟩;cbv
 refine si h (fun h=>by cbv;cases h;exact fin) fun h=>?_
 cbv
 exact bN (aS _ _ h)
 include hI hM
theorem Ep{a0:aj}{v:Bool}(h:vq I M n a0=some v):
  bO 66 [(.agg (ao M r a0))] (vb v) g nx:=by
 refine cr func66 c66 r abM afS [] 22 ntmps66 [.tmp 2] hI fun call hc=>?_
 cbv
 refine letE h fun n1 cH h=>⟨_,ak hI hM cH,?_⟩;cbv
 refine ab h fun x2 Of h=>⟨_,fun hp=>ai hM (aw Of hp.1) rfl,?_⟩;cbv
 refine ab h fun x3 iJ h=>⟨_,fun hp=>ai hM (aw iJ hp.1) rfl,?_⟩;cbv
 refine ab h fun y4 lb h=>⟨_,fun hp=>us hc (v3 hI hM (aw lb hp.1)),?_⟩;cbv
 cbv;cases h;exact fin
 include hI hM
theorem FC{a0:aj}{a1:aL}{a2:List aL}{a3:Bool}{v:Int}(h:DB I M n a0 a1 a2 a3=some v):
  bO 132 [(.agg (ao M r a0)),(.agg (aZ M r a1)),(.sl r (M.map (aZ M r) a2)),(vb a3)] (vi v) g nx:=by
 refine cr func132 aqJ r Wu YV [] 76 ntmps132 [.tmp 8] hI fun call hc=>?_
 cbv
 refine si h (fun h=>?_) fun h=>?_
 ·cbv
  refine ab h fun y1 cN h=>⟨_,_,_,us hc (Ep hI hM cN),?_⟩;cbv
  exact si h (fun h=>by cbv;cases h;exact fin) fun h=>by cbv;cases h;exact fin
 cbv
 refine ab h fun x2 Of h=>⟨_,ai hM Of rfl,?_⟩;cbv
 refine ab h fun x3 iJ h=>⟨_,fun hp=>ai hM (aw iJ hp.1) rfl,?_⟩;cbv
 refine ab h fun x4 qh h=>⟨_,fun hp=>ai hM (aw qh hp.1) rfl,?_⟩;cbv
 refine si h (fun h=>by cbv;cases h;exact fin) fun h=>?_
 cbv
 refine ab h fun x5 rU h=>⟨_,ai hM rU rfl,?_⟩;cbv
 refine ab h fun x6 wP h=>⟨_,ai hM wP rfl,?_⟩;cbv
 refine lp h (fun z7=>[(10,(vi z7))]) (fun z7=>[]) fun ju m1 aS z7 h=>?_
 dsimp only[yR]at h
 cbv
 refine letE h fun n8 PR h=>⟨_,ak hI hM PR,?_⟩;cbv
 refine si h (fun h=>?_) fun h=>by cbv;cases h;exact fin
 cbv
 refine ab h fun x9 Xj h=>?_
 refine ab h fun yC xS h=>?_
 refine letE h fun uU xU h=>?_
 refine ab h fun u9 nf h=>?_
 refine ab h fun pW tM h=>?_
 apply Exists.intro;refine⟨?_,_,rfl,?_⟩
 ·cbv
  refine⟨_,ai hM Xj rfl,?_⟩;cbv
  refine⟨_,fun hp=>ai hM (aw xS hp.1) rfl,?_⟩;cbv
  refine⟨_,ak hI hM xU,?_⟩;cbv
  refine⟨_,fun hp=>ai hM (aw nf hp.1) rfl,?_⟩;cbv
  refine⟨?_,trivial⟩
  refine⟨_,fun hp=>us hc (v3 hI hM (aw tM hp.1)),?_⟩;cbv
  all_goals exact .inl rfl
 cbv
 refine si h (fun h=>by cbv;cases h;exact fin) fun h=>?_
 cbv
 exact bN (aS _ _ h)
 include hI hM
theorem zF{a0:ah}{a1:ae}{a2:Bool}{v:ae}(h:Ar I M n a0 a1 a2=some v):
  bO 104 [(.agg (ba M r a0)),(.agg (az M r a1)),(vb a2)] (.agg (az M r v)) g nx:=by
 refine cr func104 aq1 r WV Zk [] 205 ntmps104 [.cell 6 61] hI fun call hc=>?_
 cbv
 refine letE h fun n1 cH h=>⟨_,ak hI hM cH,?_⟩;cbv
 refine ab h fun l2 JV h=>⟨_,_,dw (enc:=an) hI hM JV (by decide) rfl,?_⟩;cbv
 refine lp h (fun(l3,l4,z5)=>[(9,(vi z5))]) (fun(l3,l4,z5)=>[(7,.box [(vs a1.head),(vi a1.kids),(.gs r (.c 7 2) (M.map (aZ M r) l4)),(vi 0)]),(26,.arr 1 (M.map an l3))]) fun ju m1 aS st h=>?_
 obtain⟨l3,l4,z5⟩:=st
 dsimp only[Bz]at h
 cbv
 refine letE h fun n6 JQ h=>⟨_,ak hI hM JQ,?_⟩;cbv
 refine si h (fun h=>?_) fun h=>?_
 ·as_aux_lemma=>
   cbv
   refine ab h fun x7 BA h=>⟨_,ai hM BA rfl,?_⟩;cbv
   refine ab h fun u8 Z3 h=>?_
   refine ab h fun y9 JK h=>⟨fun _=>rfl,(.agg (aZ M r y9)),g,nx,fun ρ=>by cbv;refine us hc ((kV (s:=ρ) hI hM JK).wk ?_);exact⟨ay _,(cX hM Z3),trivial⟩,?_⟩;cbv
   refine ab h fun qO oT h=>⟨_,_,_,us hc (qJ hI hM oT),?_⟩;cbv
   refine si h (fun h=>?_) fun h=>?_
   ·as_aux_lemma=>
     cbv
     refine ab h fun sm uQ h=>?_
     refine ab h fun u9 nf h=>?_
     apply Exists.intro;refine⟨?_,_,rfl,?_⟩
     ·cbv
      refine⟨?_,?_⟩
      ·refine⟨_,_,_,us hc (nW hI hM uQ),?_⟩;cbv
       refine⟨_,ai hM nf rfl,?_⟩;cbv
       refine⟨?_,trivial⟩
       refine⟨?_,trivial⟩
       all_goals exact .inl rfl
      try refine⟨?_,trivial⟩
      try refine⟨?_,trivial⟩
      refine⟨_,_,_,us hc (nW hI hM uQ),?_⟩;cbv
      refine⟨_,ai hM nf rfl,?_⟩;cbv
      try refine⟨?_,trivial⟩
      all_goals exact .inl rfl
     cbv
     refine ab h fun pW tM h=>⟨_,_,_,us hc (FC hI hM tM),?_⟩;cbv
     refine si h (fun h=>?_) fun h=>?_
     ·as_aux_lemma=>
       cbv
       refine ab h fun vf HR h=>⟨_,ai hM HR rfl,?_⟩;cbv
       refine lp h (fun(uP,jW)=>[(14,(vi uP)),(15,(vi jW))]) (fun _=>[]) fun Bc m2 cI st h=>?_
       obtain⟨uP,jW⟩:=st
       dsimp only[By]at h
       cbv
       refine letE h fun TC MA h=>⟨_,ak hI hM MA,?_⟩;cbv
       refine si h (fun h=>?_) fun h=>?_
       ·cbv
        refine ab h fun xb Mr h=>⟨_,ai hM Mr rfl,?_⟩;cbv
        refine ab h fun Hd yU h=>⟨_,fun hp=>ai hM (aw yU hp.1) rfl,?_⟩;cbv
        refine si h (fun h=>?_) fun h=>?_
        ·cbv
         exact bN (cI _ _ h)
        cbv
        exact bN (cI _ _ h)
       cbv
       refine letE h fun TB PU h=>⟨_,ak hI hM PU,?_⟩;cbv
       refine letE h fun XA PT h=>⟨_,ak hI hM PT,?_⟩;cbv
       refine si h (fun h=>?_) fun h=>?_
       ·cbv
        refine⟨_,ak hI hM PU,?_⟩;cbv
        refine ab h fun XS MQ h=>⟨_,bS hI hM MQ,?_⟩;cbv
        refine ab h fun Ad Mq h=>?_
        refine ab h fun Ik anl h=>⟨_,cF hI hM Mq anl (by decide) rfl rfl,?_⟩;cbv
        refine⟨_,bJ (enc:=(aZ M r)) (x:=y9) hM (af _) rfl,?_⟩;cbv
        refine ab h fun py ad5 h=>⟨_,au (enc:=(aZ M r)) hI hM ad5 (fun _=>rfl) rfl (fun _=>rfl),?_⟩;cbv
        exact bN (aS _ _ h)
       cbv
       refine letE h fun n28 ana h=>⟨_,ak hI hM ana,?_⟩;cbv
       refine ab h fun P7 anj h=>⟨_,_,dw (enc:=an) hI hM anj (by decide) rfl,?_⟩;cbv
       refine lp h (fun(E8,Fv,C7)=>[(17,(vi C7))]) (fun(E8,Fv,C7)=>[(7,.box [(vs a1.head),(vi a1.kids),(.gs r (.c 7 2) (M.map (aZ M r) Fv)),(vi 0)]),(121,.arr 1 (M.map an E8))]) fun NJ m3 iI st h=>?_
       obtain⟨E8,Fv,C7⟩:=st
       dsimp only[Bw]at h
       cbv
       refine letE h fun n33 Sz h=>⟨_,ak hI hM Sz,?_⟩;cbv
       refine si h (fun h=>?_) fun h=>?_
       ·as_aux_lemma=>
         cbv
         refine ab h fun ZU JO h=>⟨_,ai hM JO rfl,?_⟩;cbv
         refine si h (fun h=>?_) fun h=>?_
         ·cbv
          refine ab h fun oP Av h=>?_
          refine ab h fun k36 anB h=>?_
          refine ab h fun x37 amQ h=>?_
          refine ab h fun l38 SV h=>?_
          apply Exists.intro;refine⟨?_,_,rfl,?_⟩
          ·cbv
           refine⟨_,ai hM JO rfl,?_⟩;cbv
           refine⟨_,ai hM Av rfl,?_⟩;cbv
           refine⟨_,bS hI hM anB,?_⟩;cbv
           refine⟨?_,trivial⟩
           refine⟨_,cF hI hM amQ SV (by decide) rfl rfl,?_⟩;cbv
           all_goals exact .inl rfl
          cbv
          exact bN (iI _ _ h)
         cbv
         refine si h (fun h=>?_) fun h=>?_
         ·cbv
          refine ab h fun x39 amP h=>?_
          refine ab h fun x40 ac3 h=>?_
          refine ab h fun Po HQ h=>?_
          refine ab h fun k42 anA h=>?_
          refine ab h fun x43 R7 h=>?_
          refine ab h fun Fu Az h=>?_
          apply Exists.intro;refine⟨?_,_,rfl,?_⟩
          ·cbv
           refine⟨_,ai hM amP rfl,?_⟩;cbv
           refine⟨_,ai hM ac3 rfl,?_⟩;cbv
           refine⟨_,ai hM JO rfl,?_⟩;cbv
           refine⟨_,ai hM HQ rfl,?_⟩;cbv
           refine⟨_,bS hI hM anA,?_⟩;cbv
           refine⟨?_,trivial⟩
           refine⟨_,cF hI hM R7 Az (by decide) rfl rfl,?_⟩;cbv
           all_goals exact .inl rfl
          cbv
          exact bN (iI _ _ h)
         cbv
         refine letE h fun MY Ay h=>⟨_,ak hI hM Ay,?_⟩;cbv
         refine ab h fun k46 MP h=>⟨_,bS hI hM MP,?_⟩;cbv
         refine ab h fun LL HO h=>?_
         refine ab h fun QR SU h=>⟨_,cF hI hM HO SU (by decide) rfl rfl,?_⟩;cbv
         refine ab h fun u49 am2 h=>?_
         refine ab h fun QL RT h=>?_
         refine ab h fun Vx SS h=>?_
         apply Exists.intro;refine⟨?_,_,rfl,?_⟩
         ·cbv
          refine⟨_,ai hM JO rfl,?_⟩;cbv
          refine⟨?_,trivial⟩
          refine⟨fun _=>rfl,(.agg (aZ M r QL)),g,nx,fun ρ=>by cbv;refine us hc ((kV (s:=ρ) hI hM RT).wk ?_);exact⟨ay _,(cX hM am2),trivial⟩,?_⟩;cbv
          refine⟨?_,trivial⟩
          refine⟨_,bJ (enc:=(aZ M r)) (x:=QL) hM (af _) rfl,?_⟩;cbv
          refine⟨?_,trivial⟩
          refine⟨_,au (enc:=(aZ M r)) hI hM SS (fun _=>rfl) rfl (fun _=>rfl),?_⟩;cbv
          refine⟨?_,trivial⟩
          all_goals exact .inl rfl
         cbv
         exact bN (iI _ _ h)
       cbv
       refine ab h fun k55 Xp h=>⟨_,bS hI hM Xp,?_⟩;cbv
       refine ab h fun x56 acZ h=>⟨_,_,rfl,bc hM acZ,rfl,?_⟩;cbv
       refine ab h fun TY H0 h=>⟨_,bS hI hM H0,?_⟩;cbv
       refine ab h fun Vr HN h=>?_
       refine ab h fun Ks DM h=>⟨_,cF hI hM HN DM (by decide) rfl rfl,?_⟩;cbv
       exact bN (aS _ _ h)
     cbv
     refine lp h (fun _=>[]) (fun _=>[]) fun Q5 m4 qC st h=>?_
     dsimp only[Bv]at h
     cbv
     refine⟨_,rfl,?_⟩;cbv
     refine dk (eS hI (by decide)) ?_;cbv
     refine letE h fun n60 PS h=>⟨_,ak hI hM PS,?_⟩;cbv
     refine letE h fun Xw HT h=>⟨_,ak hI hM HT,?_⟩;cbv
     refine si h (fun h=>?_) fun h=>?_
     ·cbv
      refine⟨_,ak hI hM PS,?_⟩;cbv
      refine ab h fun XR anx h=>⟨_,bS hI hM anx,?_⟩;cbv
      refine ab h fun x63 amL h=>?_
      refine ab h fun P5 HX h=>⟨_,cF hI hM amL HX (by decide) rfl rfl,?_⟩;cbv
      refine⟨_,bJ (enc:=(aZ M r)) (x:=y9) hM (af _) rfl,?_⟩;cbv
      refine ab h fun P4 SR h=>⟨_,au (enc:=(aZ M r)) hI hM SR (fun _=>rfl) rfl (fun _=>rfl),?_⟩;cbv
      exact bN (aS _ _ h)
     cbv
     refine⟨_,rfl,?_⟩;cbv
     refine ab h fun Ls HW h=>⟨_,_,dw (enc:=an) hI hM HW (by decide) rfl,?_⟩;cbv
     refine lp h (fun _=>[]) (fun _=>[]) fun Q4 m5 qB st h=>?_
     dsimp only[Bu]at h
     cbv
     refine⟨_,rfl,?_⟩;cbv
     refine dk (eS hI (by decide)) ?_;cbv
     refine ab h fun k67 Xo h=>⟨_,bS hI hM Xo,?_⟩;cbv
     refine ab h fun VT R6 h=>⟨_,_,rfl,bc hM R6,rfl,?_⟩;cbv
     refine ab h fun Vy PY h=>⟨_,bS hI hM PY,?_⟩;cbv
     refine ab h fun VS Mn h=>?_
     refine ab h fun Ii adW h=>⟨_,cF hI hM Mn adW (by decide) rfl rfl,?_⟩;cbv
     exact bN (aS _ _ h)
   cbv
   refine lp h (fun _=>[]) (fun _=>[]) fun VL m6 qA st h=>?_
   dsimp only[Bt]at h
   cbv
   refine⟨_,rfl,?_⟩;cbv
   refine dk (eS hI (by decide)) ?_;cbv
   refine letE h fun n72 JP h=>⟨_,ak hI hM JP,?_⟩;cbv
   refine letE h fun n73 am8 h=>⟨_,ak hI hM am8,?_⟩;cbv
   refine si h (fun h=>?_) fun h=>?_
   ·cbv
    refine⟨_,ak hI hM JP,?_⟩;cbv
    refine ab h fun k74 anv h=>⟨_,bS hI hM anv,?_⟩;cbv
    refine ab h fun x75 amJ h=>?_
    refine ab h fun XG SP h=>⟨_,cF hI hM amJ SP (by decide) rfl rfl,?_⟩;cbv
    refine⟨_,bJ (enc:=(aZ M r)) (x:=y9) hM (af _) rfl,?_⟩;cbv
    refine ab h fun l77 adU h=>⟨_,au (enc:=(aZ M r)) hI hM adU (fun _=>rfl) rfl (fun _=>rfl),?_⟩;cbv
    exact bN (aS _ _ h)
   cbv
   refine⟨_,rfl,?_⟩;cbv
   refine ab h fun Ih JU h=>⟨_,_,dw (enc:=an) hI hM JU (by decide) rfl,?_⟩;cbv
   refine lp h (fun _=>[]) (fun _=>[]) fun Rm7 m7 vX st h=>?_
   dsimp only[Br]at h
   cbv
   refine⟨_,rfl,?_⟩;cbv
   refine dk (eS hI (by decide)) ?_;cbv
   refine ab h fun k79 ant h=>⟨_,bS hI hM ant,?_⟩;cbv
   refine ab h fun x80 amI h=>⟨_,_,rfl,bc hM amI,rfl,?_⟩;cbv
   refine ab h fun k81 anr h=>⟨_,bS hI hM anr,?_⟩;cbv
   refine ab h fun x82 amG h=>?_
   refine ab h fun l83 ani h=>⟨_,cF hI hM amG ani (by decide) rfl rfl,?_⟩;cbv
   exact bN (aS _ _ h)
 cbv
 refine ab h fun k87 anq h=>⟨_,bS hI hM anq,?_⟩;cbv
 refine ab h fun ZP R0 h=>⟨_,_,rfl,bc hM R0,rfl,?_⟩;cbv
 cbv;cases h;exact fin
 include hI hM
theorem FB{a0:aL}{a1:aL}{v:Bool}(h:tJ I M n a0 a1=some v):
  bO 124 [(.agg (aZ M r a0)),(.agg (aZ M r a1))] (vb v) g nx:=by
 refine cr func124 aqP r WC Y3 [] 52 ntmps124 [.tmp 4] hI fun call hc=>?_
 cbv
 refine letE h fun n1 cH h=>⟨_,ak hI hM cH,?_⟩;cbv
 refine letE h fun n2 oQ h=>⟨_,ak hI hM oQ,?_⟩;cbv
 refine si h (fun h=>by cbv;cases h;exact fin) fun h=>?_
 cbv
 refine lp h (fun z3=>[(5,(vi z3))]) (fun z3=>[]) fun ju m1 aS z3 h=>?_
 dsimp only[pG]at h
 cbv
 refine letE h fun n4 My h=>⟨_,ak hI hM My,?_⟩;cbv
 refine si h (fun h=>?_) fun h=>by cbv;cases h;exact fin
 cbv
 refine ab h fun x5 rU h=>?_
 refine ab h fun x6 wP h=>?_
 apply Exists.intro;refine⟨?_,_,rfl,?_⟩
 ·cbv
  refine⟨_,ai hM rU rfl,?_⟩;cbv
  refine⟨_,ai hM wP rfl,?_⟩;cbv
  all_goals exact .inl rfl
 cbv
 refine si h (fun h=>by cbv;cases h;exact fin) fun h=>?_
 cbv
 exact bN (aS _ _ h)
 include hI hM
theorem Cr{a0:ae}{v:ae}(h:pF I M n a0=some v):
  bO 103 [(.agg (az M r a0))] (.agg (az M r v)) g nx:=by
 refine cr func103 aq2 r WW Zl [] 73 ntmps103 [.cell 2 61] hI fun call hc=>?_
 cbv
 refine letE h fun n1 cH h=>⟨_,ak hI hM cH,?_⟩;cbv
 refine ab h fun l2 JV h=>⟨_,_,dw (enc:=an) hI hM JV (by decide) rfl,?_⟩;cbv
 refine lp h (fun(l3,l4,z5)=>[(5,(vi z5))]) (fun(l3,l4,z5)=>[(3,.box [(vs a0.head),(vi a0.kids),(.gs r (.c 3 2) (M.map (aZ M r) l4)),(vi 0)]),(17,.arr 1 (M.map an l3))]) fun ju m1 aS st h=>?_
 obtain⟨l3,l4,z5⟩:=st
 dsimp only[iX]at h
 cbv
 refine letE h fun n6 JQ h=>⟨_,ak hI hM JQ,?_⟩;cbv
 refine si h (fun h=>?_) fun h=>?_
 ·as_aux_lemma=>
   cbv
   refine ab h fun x7 BA h=>⟨_,ai hM BA rfl,?_⟩;cbv
   refine ab h fun u8 Z3 h=>?_
   refine ab h fun y9 JK h=>⟨fun _=>rfl,(.agg (aZ M r y9)),g,nx,fun ρ=>by cbv;refine us hc ((kV (s:=ρ) hI hM JK).wk ?_);exact⟨ay _,(cX hM Z3),trivial⟩,?_⟩;cbv
   refine lp h (fun(yF,FQ)=>[(7,(vi yF)),(8,(vi FQ))]) (fun _=>[]) fun Bc m2 cI st h=>?_
   obtain⟨yF,FQ⟩:=st
   dsimp only[bX]at h
   cbv
   refine letE h fun Vw SE h=>⟨_,ak hI hM SE,?_⟩;cbv
   refine si h (fun h=>?_) fun h=>?_
   ·cbv
    refine ab h fun Bi xe h=>?_
    refine ab h fun E7 HL h=>?_
    apply Exists.intro;refine⟨?_,_,rfl,?_⟩
    ·cbv
     refine⟨_,ai hM xe rfl,?_⟩;cbv
     refine⟨?_,trivial⟩
     refine⟨_,_,_,us hc (FB hI hM HL),?_⟩;cbv
     all_goals exact .inl rfl
    cbv
    refine si h (fun h=>?_) fun h=>?_
    ·cbv
     exact bN (cI _ _ h)
    cbv
    exact bN (cI _ _ h)
   cbv
   refine si h (fun h=>?_) fun h=>?_
   ·cbv
    refine letE h fun TC MA h=>⟨_,ak hI hM MA,?_⟩;cbv
    refine⟨_,bJ (enc:=(aZ M r)) (x:=y9) hM (af _) rfl,?_⟩;cbv
    refine ab h fun qQ SW h=>⟨_,au (enc:=(aZ M r)) hI hM SW (fun _=>rfl) rfl (fun _=>rfl),?_⟩;cbv
    refine ab h fun k19 anG h=>⟨_,bS hI hM anG,?_⟩;cbv
    refine ab h fun dR DG h=>?_
    refine ab h fun vQ HZ h=>⟨_,cF hI hM DG HZ (by decide) rfl rfl,?_⟩;cbv
    exact bN (aS _ _ h)
   cbv
   refine ab h fun k22 anE h=>⟨_,bS hI hM anE,?_⟩;cbv
   refine ab h fun x23 amU h=>?_
   refine ab h fun Lu anm h=>⟨_,cF hI hM amU anm (by decide) rfl rfl,?_⟩;cbv
   exact bN (aS _ _ h)
 cbv
 refine ab h fun k28 anC h=>⟨_,bS hI hM anC,?_⟩;cbv
 refine ab h fun pM Mp h=>⟨_,_,rfl,bc hM Mp,rfl,?_⟩;cbv
 cbv;cases h;exact fin
 include hI hM
theorem fy{a0:ah}{a1:Int}{v:ah}(h:cB I M n a0 a1=some v):
  bO 48 [(.agg (ba M r a0)),(vi a1)] (.agg (ba M r v)) g nx:=by
 refine cr func48 c48 r ab2 af8 [] 86 ntmps48 [.cell 4 24] hI fun call hc=>?_
 cbv
 refine lp h (fun(l1,z2)=>[(6,(vi z2))]) (fun(l1,z2)=>[(5,.box [(.gs r (.c 5 0) (M.map (ao M r) l1))])]) fun ju m1 aS st h=>?_
 obtain⟨l1,z2⟩:=st
 dsimp only[mi]at h
 cbv
 refine letE h fun n3 qn3 h=>⟨_,ak hI hM qn3,?_⟩;cbv
 refine si h (fun h=>?_) fun h=>by cbv;cases h;exact fin
 cbv
 refine ab h fun x4 qh h=>?_
 apply Exists.intro;refine⟨?_,_,rfl,?_⟩
 ·cbv
  refine⟨_,ai hM qh rfl,?_⟩;cbv
  refine⟨_,ai hM qh rfl,?_⟩;cbv
  refine⟨?_,?_⟩
  ·refine⟨?_,trivial⟩
   refine⟨?_,trivial⟩
   all_goals exact .inl rfl
  refine⟨?_,trivial⟩
  refine⟨?_,trivial⟩
  refine⟨?_,trivial⟩
  all_goals exact .inl rfl
 cbv
 refine lp h (fun(l5,z6)=>[(8,(vi z6))]) (fun(l5,z6)=>[(7,.box [(vs x4.name),(vi x4.arity),(.gs r (.c 7 2) (M.map (az M r) l5))])]) fun Bc m2 cI st h=>?_
 obtain⟨l5,z6⟩:=st
 dsimp only[dy]at h
 cbv
 refine ab h fun x7 BA h=>⟨_,ai hM BA rfl,?_⟩;cbv
 refine letE h fun n8 PR h=>⟨_,ak hI hM PR,?_⟩;cbv
 refine si h (fun h=>?_) fun h=>?_
 ·as_aux_lemma=>
   cbv
   refine⟨_,ai hM BA rfl,?_⟩;cbv
   refine ab h fun x9 Xj h=>⟨_,ai hM Xj rfl,?_⟩;cbv
   refine si h (fun h=>?_) fun h=>?_
   ·cbv
    refine ab h fun qO oT h=>⟨_,_,_,us hc (A5 hI hM oT),?_⟩;cbv
    refine⟨_,bJ (enc:=(az M r)) (x:=qO) hM (af _) rfl,?_⟩;cbv
    refine ab h fun I2 MN h=>⟨_,au (enc:=(az M r)) hI hM MN (fun _=>rfl) rfl (fun _=>rfl),?_⟩;cbv
    exact bN (cI _ _ h)
   cbv
   refine si h (fun h=>?_) fun h=>?_
   ·cbv
    refine ab h fun CJ HM h=>⟨_,_,_,us hc (Cr hI hM HM),?_⟩;cbv
    refine⟨_,bJ (enc:=(az M r)) (x:=CJ) hM (af _) rfl,?_⟩;cbv
    refine ab h fun xi MM h=>⟨_,au (enc:=(az M r)) hI hM MM (fun _=>rfl) rfl (fun _=>rfl),?_⟩;cbv
    exact bN (cI _ _ h)
   cbv
   refine si h (fun h=>?_) fun h=>?_
   ·cbv
    refine ab h fun E7 HL h=>⟨_,_,_,us hc (zF hI hM HL),?_⟩;cbv
    refine⟨_,bJ (enc:=(az M r)) (x:=E7) hM (af _) rfl,?_⟩;cbv
    refine ab h fun xh SY h=>⟨_,au (enc:=(az M r)) hI hM SY (fun _=>rfl) rfl (fun _=>rfl),?_⟩;cbv
    exact bN (cI _ _ h)
   cbv
   refine si h (fun h=>?_) fun h=>?_
   ·cbv
    refine ab h fun GY Ml h=>⟨_,_,_,us hc (zF hI hM Ml),?_⟩;cbv
    refine⟨_,bJ (enc:=(az M r)) (x:=GY) hM (af _) rfl,?_⟩;cbv
    refine ab h fun tw SX h=>⟨_,au (enc:=(az M r)) hI hM SX (fun _=>rfl) rfl (fun _=>rfl),?_⟩;cbv
    exact bN (cI _ _ h)
   cbv
   refine si h (fun h=>?_) fun h=>?_
   ·cbv
    refine ab h fun LF RX h=>⟨_,_,_,us hc (zG hI hM RX),?_⟩;cbv
    refine⟨_,bJ (enc:=(az M r)) (x:=LF) hM (af _) rfl,?_⟩;cbv
    refine ab h fun Il ad6 h=>⟨_,au (enc:=(az M r)) hI hM ad6 (fun _=>rfl) rfl (fun _=>rfl),?_⟩;cbv
    exact bN (cI _ _ h)
   cbv
   refine⟨_,bJ (enc:=(az M r)) (x:=x9) hM (af _) rfl,?_⟩;cbv
   refine ab h fun TT ML h=>⟨_,au (enc:=(az M r)) hI hM ML (fun _=>rfl) rfl (fun _=>rfl),?_⟩;cbv
   exact bN (cI _ _ h)
 cbv
 refine⟨_,bJ (enc:=(ao M r)) (x:=(⟨x4.name,x4.arity,l5⟩:aj)) hM (af _) rfl,?_⟩;cbv
 refine ab h fun wU ann h=>⟨_,au (enc:=(ao M r)) hI hM ann (fun _=>rfl) rfl (fun _=>rfl),?_⟩;cbv
 exact bN (aS _ _ h)
end Ab
