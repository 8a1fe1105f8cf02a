/- PassesBlocks holds of all cores and names (no condition): a part of the proof: an abstract interpreter of the code that is proved sound, models of the functions, and laws of these models. -/
import Derived.Test.YtcdinjhcnhepeaaGreatDoorB03
import Derived.Test.YtcdinjhcnhepeaaGreatDoorB04
import Derived.Test.YtcdinjhcnhepeaaGreatDoorB05
set_option linter.unusedVariables false
set_option linter.unusedSimpArgs false
set_option linter.unusedSectionVars false
namespace Ab
open Go
set_option maxHeartbeats 4000000
set_option maxRecDepth 100000
abbrev bW(M:Md)(r:Nat)(br:ah)(m:Nat)(o6:List AV)(l:List Bool):List (Nat×Ob):=
 [(3,.box [.eW (.s 12) m]),(4,.box [.fn (.func 111) [.ptr (.s 3) 0,.aR r (az M r br) 0,.ptr (.s 4) 0]]),(6,.box o6),(12,.arr 1 (M.map bV l))]
structure Hok(M:Md)(r:Nat)(br:ah)(m:Nat)(o6:List AV)(g:Nat→Option Ob)(nx:Nat)(t:List (Nat×AV))(up:List Fr):Prop where
 ok: ∀l,Sd ⟨36,t,bW M r br m o6 l,[],g,nx,up,false⟩=true
 t:wkT t t
 u:wkU up up
abbrev Hand:=YH→Nat→List AV→St→bd→Prop
def PM(I:Pr)(M:Md)(n:Nat)(r:Nat)(br:ah)(m:Nat)(o6:List AV)(g:Nat→Option Ob)(nx:Nat)(k:Nat)(J:Hand):Prop:=
 ∀(yl:YH) (l:List Bool) (x:Int) (l':List Bool) (t:List (Nat×AV)) (up:List Fr) (K:bd),L9 I M n br m k l x=some l'→Hok M r br m o6 g nx t up→
  K (.gw []) ⟨36,t,bW M r br m o6 l',[],g,nx,up,false⟩→J yl 111 [vi x,.ptr (.s 3) 0,.aR r (az M r br) 0,.ptr (.s 4) 0] ⟨36,t,bW M r br m o6 l,[],g,nx,up,false⟩ K
theorem FH{M:Md}{r:Nat}{br:ah}{m:Nat}{o6:List AV}{g:Nat→Option Ob}{nx:Nat}{t0 t1:List (Nat×AV)}{up0:List Fr}{l:List Bool}(h1:V9 (bW M r br m o6 l) t1=true)
  (h:Sd ⟨36,t0,bW M r br m o6 l,[],g,nx,up0,false⟩=true):Sd ⟨36,t1,bW M r br m o6 l,[],g,nx,⟨36,t0⟩::up0,false⟩=true:=by
 simp only[Sd,okU,Bool.and_eq_true]at h ⊢;exact⟨h1,h.2.1,h.1,h.2.2⟩
theorem acQ{I:Pr}(hI:I=al){M:Md}(hM:M= .al){n r:Nat}{br:ah}{m:Nat}{o6:List AV}{g:Nat→Option Ob}{nx:Nat}{k:Nat}{call:pz}(bb:Nat)(J JR:Hand)(yl:YH)
  (hJ:PM I M n r br m o6 g nx k J){l:List Bool}{x:Int}{l':List Bool}{t0:List (Nat×AV)}{up0:List Fr}{K:bd}(h:L9 I M n br m (k+1) l x=some l')(iQ:Hok M r br m o6 g nx t0 up0)
  (hK:K (.gw []) ⟨36,t0,bW M r br m o6 l',[],g,nx,up0,false⟩):
  qA {I:=I,L:=L,ρ:=r,sh:=[],tree:=P5,call:=call,base:=bb,op:=[],dead:=Q0,tD:=vP (vy 111 (MM r) fun _=>none),inl:=J,B8:=JR,yl:=yl,cl:=gL,keys:=lQ,eqs:=sO} akg
   (Gq 36 [vi x,.ptr (.s 3) 0,.aR r (az M r br) 0,.ptr (.s 4) 0] ⟨36,t0,bW M r br m o6 l,[],g,nx,up0,false⟩)
   (abc I L [] (bW M r br m o6 l) K):=by
 obtain⟨wrap,add,sub,mul,aU,bg,uT,seq,cat,beq,not,pick,SE,imax,fR,Py,app,DW,Kv,flat,chunk,rep,set,room,within,nat,CX,ny,nr⟩:=I;obtain⟨map,ln⟩:=M;dsimp only[L9]at h;cbv;refine ag h fun k1 qk1 h=>?_;refine⟨_,aK hI qk1,?_⟩;cbv;refine ag h fun x2 YE h=>?_;refine⟨_,_,rfl,bA hM YE,rfl,?_⟩;cbv;refine Eh h rfl (fun h=>?_) (fun h=>?_)
 ·cbv;obtain rfl:=oJ h;have e:=iQ.ok l
  cbv at e;refine⟨by rw[e],?_⟩;cbv;exact hK
 ·cbv;refine ag h fun l3 To h=>?_;refine⟨_,aK hI qk1,?_⟩;cbv;refine⟨_,mU hI hM YE To (by decide) rfl rfl,?_⟩;cbv;refine ag h fun x4 vW h=>?_;refine⟨_,ao hM vW rfl,?_⟩;cbv;refine Eh h rfl (fun h=>?_) (fun h=>?_)
  ·cbv;refine⟨_,ao hM vW rfl,?_⟩;cbv;refine letE h fun n5 qn5 h=>?_;refine⟨_,an hI hM qn5,?_⟩;cbv;refine step_loop h none (fun st=>[(28,vi st.2)]) (fun st=>[(12,.arr 1 (map bV st.1))]) (fun _=>g) (fun _=>nx) ?_ (fun R1 m1 hR1 st h=>?_)
   ·refine⟨rfl,rfl,rfl,rfl,rfl,?_,⟨ak _,ak _,ak _,⟨rfl,rfl⟩,trivial⟩,⟨⟨rfl,iQ.t⟩,iQ.u⟩,FH rfl (iQ.ok l3),rfl⟩;cbv;(all_goals(repeat' apply And.intro));all_goals first|trivial|rfl|exact(aJ hM)
   ·obtain⟨l6,z7⟩:=st;cbv;refine Eh h rfl (fun h=>?_) (fun h=>?_)
    ·cbv;refine ag h fun x8 qx8 h=>?_;refine⟨_,ao hM qx8 rfl,?_⟩;cbv;refine ag h fun l9 ql9 h=>?_;refine hJ _ l6 x8 l9 _ _ _ ql9 ⟨fun l=>FH rfl (iQ.ok l),?_,⟨⟨rfl,iQ.t⟩,iQ.u⟩⟩ ?_
     ·cbv;(all_goals(repeat' apply And.intro));all_goals first|trivial|rfl|exact(aJ hM)
     ·cbv;refine hR1 (l9,_) _ h ?_;refine⟨rfl,rfl,rfl,rfl,rfl,?_,⟨ak _,ak _,ak _,⟨rfl,rfl⟩,trivial⟩,⟨⟨rfl,iQ.t⟩,iQ.u⟩,FH rfl (iQ.ok l9),rfl⟩;cbv;(all_goals(repeat' apply And.intro));all_goals first|trivial|rfl|exact(aJ hM)
    ·cbv;obtain rfl:=oJ h;have e:=iQ.ok l6
     cbv at e;refine⟨by rw[e],?_⟩;cbv;exact hK
  ·cbv;obtain rfl:=oJ h;have e:=iQ.ok l3
   cbv at e;refine⟨by rw[e],?_⟩;cbv;exact hK
theorem Wh{I:Pr}(hI:I=al){M:Md}(hM:M= .al){n r:Nat}{br:ah}{m:Nat}{o6:List AV}{g:Nat→Option Ob}{nx:Nat}{call:pz}{tr:Nat→Tree}{dd:Nat→List Nat}{op:List Nat}:
  ∀(k base:Nat),PM I M n r br m o6 g nx k (nP {I:=I,L:=L,ρ:=r,sh:=[],tree:=tr,call:=call,op:=op,dead:=dd,cl:=gL,keys:=lQ,eqs:=sO} (vy 111 (MM r) fun _=>none) k base).inl
 |0,_=>fun yl l x l' t up K h _ _=>by cases h
 |k+1,base=>fun yl l x l' t up K h iQ hK=>by
  have ih:=Wh hI hM (n:=n) (r:=r) (br:=br) (m:=m) (o6:=o6) (g:=g) (nx:=nx) (call:=call) (tr:=tr) (dd:=dd) (op:=op) k (base*256+111)
  have hb:=acQ hI hM (call:=call) ((base*256+111)*1000) _ (nP {I:=I,L:=L,ρ:=r,sh:=[],tree:=tr,call:=call,op:=op,dead:=dd,cl:=gL,keys:=lQ,eqs:=sO} (vy 111 (MM r) fun _=>none) k (base*256+111)).B8 yl ih h iQ hK
  cases k with
  |zero=>exact hb
  |succ k=>exact hb
theorem amI{C0:dx}{T:Nat→Option FI}{n:Nat}{c:Code}{s:St}{rs:List ResultVar}{R:AV→(Nat→Option Ob)→Nat→Prop}
  (h: ∀(J JR:Hand),J=(nP C0 T n 0).inl→qA {C0 with base:=0,tD:=vP T,inl:=J,B8:=JR,yl:=fun _ _ _ _=>False} c s (post {C0 with base:=0,tD:=vP T,inl:=J,B8:=JR,yl:=fun _ _ _ _=>False} rs R)):
  qA (nP C0 T n 0) c s (post (nP C0 T n 0) rs R):=by
 have:=h _ (nP C0 T n 0).B8 rfl
 cases n<;>exact this
theorem amO{I:Pr}(hI:I=al){M:Md}(hM:M= .al){n r:Nat}{br:ah}{m:Nat}{o6:List AV}{g:Nat→Option Ob}{nx:Nat}{call:pz}{tr:Nat→Tree}{dd:Nat→List Nat}{op:List Nat}{J:Hand}
  (hJ:J=(nP {I:=I,L:=L,ρ:=r,sh:=[],tree:=tr,call:=call,op:=op,dead:=dd,cl:=gL,keys:=lQ,eqs:=sO} (vy 111 (MM r) fun _=>none) n 0).inl):PM I M n r br m o6 g nx n J:=hJ▸Wh hI hM n 0
end Ab
namespace Ab
open Go Go.Proofs.Tryz
set_option maxHeartbeats 100000000
set_option maxRecDepth 100000
variable{I:Pr}(hI:I=al){M:Md}(hM:M= .al){n nx r s p q u rl:Nat}{g:Nat→Option Ob}
 include hI hM
theorem cR{a0:aH}{v:Bool}(h:ei I M n a0=some v):
  cv 89 [(.agg (bB M r a0))] (vb v) g nx:=have _:=hM;by
 refine cS func89 c89 r aeR ajf [] 11 ntmps89 [.tmp 2] hI fun call hc=>?_;cbv;cases h;exact fin
 include hI hM
theorem DQ{a0:ah}{v:List Bool}(h:As I M n a0=some v):
  cv 59 [(.agg (az M r a0))] (.sl r (M.map bV v)) g nx:=by
 refine yi func59 c59 r afd ajB [3,4] 36 ntmps59 [.tmp 2] hI (bp.cons (XK r) (sX PP gL)) n fun call hc=>?_;refine amI (fun J JR hJ=>?_);cbv;refine letE h fun n1 dJ h=>⟨_,an hI hM dJ,?_⟩;cbv;refine ag h fun l2 R7 h=>⟨_,_,gf (enc:=bV) hI hM R7 (by decide) rfl,?_⟩;cbv;refine⟨_,an hI hM dJ,?_⟩;cbv;refine lp h (fun(l3,z4)=>[(17,(vi z4))]) (fun(l3,z4)=>[(12,.arr 1 (M.map bV l3))]) fun mK m1 aW st h=>?_;obtain⟨l3,z4⟩:=st;dsimp only[wx]at h;cbv;refine si h (fun h=>?_) fun h=>?_
 ·as_aux_lemma=>
   cbv;refine ag h fun x5 rC h=>⟨_,ao hM rC rfl,?_⟩;cbv;refine ag h fun y6 Ao h=>⟨_,_,_,us hc (cR hI hM Ao),?_⟩;cbv;refine si h (fun h=>?_) fun h=>?_
   ·cbv;refine letE h fun n7 qn7 h=>⟨_,an hI hM qn7,?_⟩;cbv;refine lp h (fun(l8,z9)=>[(26,(vi z9))]) (fun(l8,z9)=>[(12,.arr 1 (M.map bV l8))]) fun D0 m2 eM st h=>?_;obtain⟨l8,z9⟩:=st;dsimp only[wv]at h;cbv;refine si h (fun h=>?_) fun h=>?_
    ·cbv;refine ag h fun Dz BN h=>⟨_,ao hM BN rfl,?_⟩;cbv;refine ag h fun zX VG h=>?_;refine amO hI hM hJ _ _ _ _ _ _ _ VG ⟨fun l=>rfl,?_,trivial⟩ ?_
     ·cbv;(all_goals(repeat' apply And.intro));all_goals first|trivial|rfl|exact(aJ hM)
     cbv;exact bY (eM _ _ h)
    cbv;exact bY (aW _ _ h)
   cbv;exact bY (aW _ _ h)
 cbv;refine ag h fun u16 Oj h=>?_;obtain rfl:=oJ h;cbv;all_goals(repeat' apply And.intro)
 all_goals first|trivial|rfl|exact(aJ hM)|exact eF hM Oj
 include hI hM
theorem dF{a0:List Int}{v:Int}(h:na I M n a0=some v):
  cv 117 [(.sl r (M.map aq a0))] (vi v) g nx:=by
 refine cS func117 avF r ZU acu [] 17 ntmps117 [.tmp 2] hI fun call hc=>?_;cbv;refine letE h fun n1 dJ h=>⟨_,an hI hM dJ,?_⟩;cbv;refine lp h (fun(z2,z3)=>[(3,(vi z2)),(8,(vi z3))]) (fun _=>[]) fun mK m1 aW st h=>?_;obtain⟨z2,z3⟩:=st;dsimp only[wz]at h;cbv;refine si h (fun h=>?_) fun h=>by cbv;cases h;exact fin
 cbv;refine ag h fun x4 vW h=>⟨_,ao hM vW rfl,?_⟩;cbv;exact bY (aW _ _ h)
 include hI hM
theorem xe{a0:ai}{a1:ByteArray}{v:Bool}(h:r4 I M n a0 a1=some v):
  cv 118 [(.agg (ay M r a0)),(.aR r [(vs a1)] 0)] (vb v) g nx:=have _:=hM;by
 refine cS func118 avE r ZT acs [] 8 ntmps118 [.tmp 3] hI fun call hc=>?_;cbv;cases h;exact fin
 include hI hM
theorem pG{a0:List ai}{ba:ByteArray}{v:Int}(h:kT I M n a0 ba=some v):
  cv 92 [(.sl r (M.map (ay M r) a0)),(.fn (.func 118) [(.aR r [(vs ba)] 0)])] (vi v) g nx:=by
 refine cS func92 c92 r Jh Kq [] 19 ntmps92 [.tmp 4] hI fun call hc=>?_;cbv;refine letE h fun n1 dJ h=>⟨_,an hI hM dJ,?_⟩;cbv;refine lp h (fun z2=>[(8,(vi z2))]) (fun z2=>[]) fun mK m1 aW z2 h=>?_;dsimp only[jD]at h;cbv;refine si h (fun h=>?_) fun h=>by cbv;cases h;exact fin
 cbv;refine ag h fun x3 me h=>⟨_,ao hM me rfl,?_⟩;cbv;refine ag h fun y4 oc h=>⟨_,_,_,us hc (xe hI hM oc),?_⟩;cbv;refine si h (fun h=>by cbv;cases h;exact fin) fun h=>?_;cbv;exact bY (aW _ _ h)
 include hI hM
theorem lY{a0:af}{a1:ByteArray}{v:ai}(h:uE I M n a0 a1=some v):
  cv 72 [(.agg (aZ M r a0)),(vs a1)] (.agg (ay M r v)) g nx:=by
 refine cS func72 c72 r ae3 ajr [] 15 ntmps72 [.cell 4 57] hI fun call hc=>?_;cbv;refine ag h fun y1 c9 h=>⟨_,_,_,us hc (pG hI hM c9),?_⟩;cbv;refine ag h fun x2 YE h=>⟨_,ao hM YE rfl,?_⟩;cbv;cbv;cases h;exact fin
 include hI hM
theorem A3{a0:aH}{v:Bool}(h:wy I M n a0=some v):
  cv 120 [(.agg (bB M r a0))] (vb v) g nx:=by
 refine cS func120 avC r ZR acq [] 6 ntmps120 [.tmp 2] hI fun call hc=>?_;cbv;refine ag h fun y1 c9 h=>⟨_,_,_,us hc (cR hI hM c9),?_⟩;cbv;cbv;cases h;exact fin
 include hI hM
theorem tR{a0:aH}{v:Bool}(h:oN I M n a0=some v):
  cv 152 [(.agg (bB M r a0)),(.aR r [(.fn (.func 120) [])] 0)] (vb v) g nx:=by
 refine cS func152 avh r Zs abZ [] 8 ntmps152 [.tmp 3] hI fun call hc=>?_;cbv;refine ag h fun y1 c9 h=>⟨_,_,_,us hc (A3 hI hM c9),?_⟩;cbv;cbv;cases h;exact fin
 include hI hM
theorem eG{zQ:ByteArray}{zP:Int}{zO:Int}{ou:List Int}{a1:List Int}{v:List Int}(h:j8 I M n zQ zP zO ou a1=some v):
  cv 55 [(.aR rl [(vs zQ),(vi zP),(.v gD),(vi zO),(.sl r (M.map aq ou)),(.v .nilFunc)] 0),(.sl p (M.map aq a1))] (.sl r (M.map aq v)) g nx:=by
 refine cS func55 c55 r Ji Kr [] 26 ntmps55 [.tmp 4] hI fun call hc=>?_;cbv;refine letE h fun n1 dJ h=>⟨_,an hI hM dJ,?_⟩;cbv;refine lp h (fun(z2,l3)=>[(5,(.gs r (.l 23) (M.map aq l3))),(10,(vi z2))]) (fun _=>[]) fun mK m1 aW st h=>?_;obtain⟨z2,l3⟩:=st;dsimp only[mZ]at h;cbv;refine si h (fun h=>?_) fun h=>by cbv;cases h;exact fin
 cbv;refine ag h fun x4 vW h=>⟨_,ao hM vW rfl,?_⟩;cbv;refine ag h fun x5 rC h=>⟨_,ao hM rC rfl,?_⟩;cbv;refine⟨_,cC (enc:=aq) (x:=x5) hM (ak _) rfl,?_⟩;cbv;refine ag h fun l6 Vv h=>⟨_,ax (enc:=aq) hI hM Vv (fun _=>rfl) rfl (fun _=>rfl),?_⟩;cbv;exact bY (aW _ _ h)
 include hI hM
 include hI hM
theorem mG{zQ:ByteArray}{zP:Int}{GM:List aH}{zO:Int}{ou:List Int}{zN:af}{a1:List Int}{v:List Int}(h:oM I M n zQ zP GM zO ou zN a1=some v):
  cv 55 [(.aR rl [(vs zQ),(vi zP),(.sl r (M.map (bB M r) GM)),(vi zO),(.sl r (M.map aq ou)),(.fn (.func 71) [(.aR q (aZ M u zN) 0)])] 0),(.sl p (M.map aq a1))] (.sl r (M.map aq v)) g nx:=by
 refine cS func55 c55 r Ji Kr [] 26 ntmps55 [.tmp 4] hI fun call hc=>?_;cbv;refine letE h fun n1 dJ h=>⟨_,an hI hM dJ,?_⟩;cbv;refine lp h (fun(z2,l3)=>[(5,(.gs r (.l 23) (M.map aq l3))),(10,(vi z2))]) (fun _=>[]) fun mK m1 aW st h=>?_;obtain⟨z2,l3⟩:=st;dsimp only[mY]at h;cbv;refine si h (fun h=>?_) fun h=>by cbv;cases h;exact fin
 cbv;refine ag h fun x4 vW h=>⟨_,ao hM vW rfl,?_⟩;cbv;refine ag h fun x5 rC h=>⟨_,ao hM rC rfl,?_⟩;cbv;refine⟨_,cC (enc:=aq) (x:=x5) hM (ak _) rfl,?_⟩;cbv;refine ag h fun l6 Vv h=>⟨_,ax (enc:=aq) hI hM Vv (fun _=>rfl) rfl (fun _=>rfl),?_⟩;cbv;exact bY (aW _ _ h)
 include hI hM
 include hI hM
theorem lS{zQ:ByteArray}{zP:Int}{GM:List aH}{zO:Int}{ou:List Int}{zN:af}{a1:List Int}{v:List Int}(h:nU I M n zQ zP GM zO ou zN a1=some v):
  cv 55 [(.aR rl [(vs zQ),(vi zP),(.sl r (M.map (bB M r) GM)),(vi zO),(.sl r (M.map aq ou)),(.fn (.func 73) [(.aR q (aZ M u zN) 0)])] 0),(.sl p (M.map aq a1))] (.sl r (M.map aq v)) g nx:=by
 refine cS func55 c55 r Ji Kr [] 26 ntmps55 [.tmp 4] hI fun call hc=>?_;cbv;refine letE h fun n1 dJ h=>⟨_,an hI hM dJ,?_⟩;cbv;refine lp h (fun(z2,l3)=>[(5,(.gs r (.l 23) (M.map aq l3))),(10,(vi z2))]) (fun _=>[]) fun mK m1 aW st h=>?_;obtain⟨z2,l3⟩:=st;dsimp only[mv]at h;cbv;refine si h (fun h=>?_) fun h=>by cbv;cases h;exact fin
 cbv;refine ag h fun x4 vW h=>⟨_,ao hM vW rfl,?_⟩;cbv;refine ag h fun x5 rC h=>⟨_,ao hM rC rfl,?_⟩;cbv;refine⟨_,cC (enc:=aq) (x:=x5) hM (ak _) rfl,?_⟩;cbv;refine ag h fun l6 Vv h=>⟨_,ax (enc:=aq) hI hM Vv (fun _=>rfl) rfl (fun _=>rfl),?_⟩;cbv;exact bY (aW _ _ h)
 include hI hM
theorem Gn{a0:af}{a1:Int}{a2:Int}{v:ah×Int}(h:Dg I M n a0 a1 a2=some v):
  cv 109 [(.agg (aZ M r a0)),(vi a1),(vi a2)] (.gw [(.agg (az M r v.1)),(vi v.2)]) g nx:=by
 refine cS func109 avI r Z0 acA [] 49 ntmps109 [.cell 6 61,.tmp 7] hI fun call hc=>?_;cbv;refine ag h fun y1 c9 h=>⟨_,_,_,us hc (dh hI hM c9),?_⟩;cbv;refine si h (fun h=>by cbv;cases h;exact fin) fun h=>?_;cbv;refine letE h fun n2 oC h=>⟨_,an hI hM oC,?_⟩;cbv;refine ag h fun x3 me h=>⟨_,fun hp=>ao hM (aD me hp.1) rfl,?_⟩;cbv;refine letE h fun n4 He h=>⟨_,an hI hM He,?_⟩;cbv;refine si h (fun h=>by cbv;cases h;exact fin) fun h=>?_;cbv;refine ag h fun x5 rC h=>⟨_,ao hM rC rfl,?_⟩;cbv;refine ag h fun x6 Fo h=>⟨_,ao hM Fo rfl,?_⟩;cbv;cbv;cases h;exact fin
 include hI hM
theorem iK{a0:af}{a1:ByteArray}{v:Int×Int}(h:il I M n a0 a1=some v):
  cv 90 [(.agg (aZ M r a0)),(vs a1)] (.gw [(vi v.1),(vi v.2)]) g nx:=by
 refine yi func90 c90 r aeQ aje [] 20 ntmps90 [.tmp 4,.tmp 5] hI (bp.cons (Gi r) (sX PP gL)) 8 fun call hc=>?_;cbv;refine ag h fun y1 c9 h=>⟨_,_,_,us hc (dh hI hM c9),?_⟩;cbv;refine si h (fun h=>by cbv;cases h;exact fin) fun h=>?_;cbv;refine ag h fun y2 uz h=>⟨_,_,_,us hc (fK hI hM uz),?_⟩;cbv;exact si h (fun h=>by cbv;cases h;exact fin) fun h=>by cbv;cases h;exact fin
 include hI hM
theorem uX{a0:aH}{a1:aH}{a2:af}{a3:List Int}{v:Bool}(h:gM I M n a0 a1 a2 a3=some v):
  cv 153 [(.agg (bB M r a0)),(.agg (bB M r a1)),(.aR r (aZ M r a2) 0),(.lB rl 1 (M.map aq a3))] (vb v) g nx:=by
 refine cS func153 avg r Zr abY [] 60 ntmps153 [.tmp 6] hI fun call hc=>?_;cbv;refine ag h fun y1 c9 h=>⟨_,fun hp=>us hc (cL hI hM (aD c9 hp.1)),?_⟩;cbv;refine si h (fun h=>by cbv;cases h;exact fin) fun h=>?_;cbv;refine ag h fun y2 uz h=>⟨_,_,_,us hc (cR hI hM uz),?_⟩;cbv;refine si h (fun h=>by cbv;cases h;exact fin) fun h=>?_;cbv;refine ag h fun y3 JA h=>⟨_,_,_,us hc (iK hI hM JA),?_⟩;cbv;refine ag h fun y4 oc h=>⟨_,_,_,us hc (iK hI hM oc),?_⟩;cbv;refine ag h fun u5 qu5 h=>?_;refine ag h fun x6 Fo h=>?_;refine ag h fun x7 RW h=>?_;apply Exists.intro;refine⟨?_,_,rfl,?_⟩
 ·cbv;repeat' first|exact .inl rfl|exact trivial|(refine⟨_,⟨aS hI hM qu5,rfl,KF (enc:=aq) hM Fo⟩,?_⟩;cbv)|(refine⟨_,⟨aS hI hM qu5,rfl,KF (enc:=aq) hM RW⟩,?_⟩;cbv)|apply And.intro
  all_goals exact bn
 cbv;cases h;exact fin
 include hI hM
theorem rK{a0:List aH}{a1:List aH}{Cy:af}{Cx:List Int}{v:Bool}(h:eT I M n a0 a1 Cy Cx=some v):
  cv 98 [(.sl r (M.map (bB M r) a0)),(.sl r (M.map (bB M r) a1)),(.fn (.func 153) [(.aR r (aZ M r Cy) 0),(.lB rl 1 (M.map aq Cx))])] (vb v) g nx:=by
 refine cS func98 c98 r T7 XT [] 32 ntmps98 [.tmp 6] hI fun call hc=>?_;cbv;refine letE h fun n1 dJ h=>⟨_,an hI hM dJ,?_⟩;cbv;refine letE h fun n2 oC h=>⟨_,an hI hM oC,?_⟩;cbv;refine si h (fun h=>by cbv;cases h;exact fin) fun h=>?_;cbv;refine⟨_,an hI hM dJ,?_⟩;cbv;refine lp h (fun z3=>[(17,(vi z3))]) (fun z3=>[]) fun mK m1 aW z3 h=>?_;dsimp only[dW]at h;cbv;refine si h (fun h=>?_) fun h=>by cbv;cases h;exact fin
 cbv;refine ag h fun x4 vW h=>⟨_,ao hM vW rfl,?_⟩;cbv;refine ag h fun x5 rC h=>⟨_,ao hM rC rfl,?_⟩;cbv;refine ag h fun y6 Ao h=>⟨_,_,_,us hc (uX hI hM Ao),?_⟩;cbv;refine si h (fun h=>by cbv;cases h;exact fin) fun h=>?_;cbv;exact bY (aW _ _ h)
 include hI hM
theorem A0{a0:af}{a1:List Int}{a2:ah}{a3:ah}{v:Bool}(h:m0 I M n a0 a1 a2 a3=some v):
  cv 127 [(.agg (aZ M r a0)),(.ar 12 1 (M.map aq a1)),(.agg (az M r a2)),(.agg (az M r a3))] (vb v) g nx:=by
 refine cS func127 avy r ZM ack [5] 36 ntmps127 [.tmp 8] hI fun call hc=>?_;cbv;try(refine⟨⟨by decide,by decide⟩,?_⟩;cbv)
 refine ag h fun y1 c9 h=>⟨fun _=>rfl,(vb y1),fun hp=>fun ρ=>by cbv;exact us hc (rK hI hM (aD c9 hp.1)),?_⟩;cbv;cbv;cases h;exact fin
 include hI hM
theorem sL{a0:ah}{a1:ah}{a2:af}{a3:List Int}{v:Bool}(h:jz I M n a0 a1 a2 a3=some v):
  cv 126 [(.agg (az M r a0)),(.agg (az M r a1)),(.aR rl (aZ M r a2) 0),(.lB rl 1 (M.map aq a3))] (vb v) g nx:=by
 refine cS func126 avz r ZN acm [] 12 ntmps126 [.tmp 6] hI fun call hc=>?_;cbv;refine ag h fun u1 qu1 h=>?_
 (first|refine⟨⟨aS hI hM qu1,rfl⟩,?_⟩|refine⟨⟨aS hI hM qu1,trivial⟩,?_⟩|refine⟨aS hI hM qu1,?_⟩)
 cbv;refine ag h fun y2 uz h=>⟨_,_,_,us hc (A0 hI hM uz),?_⟩;cbv;cbv;cases h;exact fin
 include hI hM
theorem pk{a0:List ah}{a1:List ah}{Cy:af}{Cx:List Int}{v:Bool}(h:dk I M n a0 a1 Cy Cx=some v):
  cv 101 [(.sl r (M.map (az M r) a0)),(.sl r (M.map (az M r) a1)),(.fn (.func 126) [(.aR rl (aZ M r Cy) 0),(.lB rl 1 (M.map aq Cx))])] (vb v) g nx:=by
 refine cS func101 apf r P6 Q1 [] 32 ntmps101 [.tmp 6] hI fun call hc=>?_;cbv;refine letE h fun n1 dJ h=>⟨_,an hI hM dJ,?_⟩;cbv;refine letE h fun n2 oC h=>⟨_,an hI hM oC,?_⟩;cbv;refine si h (fun h=>by cbv;cases h;exact fin) fun h=>?_;cbv;refine⟨_,an hI hM dJ,?_⟩;cbv;refine lp h (fun z3=>[(17,(vi z3))]) (fun z3=>[]) fun mK m1 aW z3 h=>?_;dsimp only[cU]at h;cbv;refine si h (fun h=>?_) fun h=>by cbv;cases h;exact fin
 cbv;refine ag h fun x4 vW h=>⟨_,ao hM vW rfl,?_⟩;cbv;refine ag h fun x5 rC h=>⟨_,ao hM rC rfl,?_⟩;cbv;refine ag h fun y6 Ao h=>⟨_,_,_,us hc (sL hI hM Ao),?_⟩;cbv;refine si h (fun h=>by cbv;cases h;exact fin) fun h=>?_;cbv;exact bY (aW _ _ h)
 include hI hM
theorem vh{a0:ai}{a1:af}{a2:List Int}{a3:Int}{a4:ai}{v:Bool}(h:eN I M n a0 a1 a2 a3 a4=some v):
  cv 125 [(.agg (ay M r a0)),(.aR rl (aZ M r a1) 0),(.lB rl 1 (M.map aq a2)),(.aR r [(vi a3)] 0),(.aR r (ay M r a4) 0)] (vb v) g nx:=by
 refine cS func125 avA r ZO acn [] 38 ntmps125 [.tmp 6] hI fun call hc=>?_;cbv;refine ag h fun y1 c9 h=>⟨_,_,_,us hc (iK hI hM c9),?_⟩;cbv;refine ag h fun u2 qu2 h=>?_;refine ag h fun x3 me h=>?_;refine ag h fun x4 vW h=>?_;refine ag h fun y5 Jz h=>?_;apply Exists.intro;refine⟨?_,_,rfl,?_⟩
 ·cbv;repeat' first|exact .inl rfl|exact trivial|(refine⟨_,⟨aS hI hM qu2,rfl,KF (enc:=aq) hM me⟩,?_⟩;cbv)|(refine⟨_,⟨aS hI hM qu2,rfl,KF (enc:=aq) hM vW⟩,?_⟩;cbv)|(refine⟨_,fun hp=>us hc (pk hI hM (aD Jz hp.1)),?_⟩;cbv)|apply And.intro
  all_goals exact bn
 cbv;cases h;exact fin
 include hI hM
theorem pF{a0:List ai}{ba:af}{vU:List Int}{Tc:Int}{Tb:ai}{v:Int}(h:dH I M n a0 ba vU Tc Tb=some v):
  cv 92 [(.sl r (M.map (ay M r) a0)),(.fn (.func 125) [(.aR rl (aZ M r ba) 0),(.lB rl 1 (M.map aq vU)),(.aR r [(vi Tc)] 0),(.aR r (ay M r Tb) 0)])] (vi v) g nx:=by
 refine cS func92 c92 r Jh Kq [] 19 ntmps92 [.tmp 4] hI fun call hc=>?_;cbv;refine letE h fun n1 dJ h=>⟨_,an hI hM dJ,?_⟩;cbv;refine lp h (fun z2=>[(8,(vi z2))]) (fun z2=>[]) fun mK m1 aW z2 h=>?_;dsimp only[jC]at h;cbv;refine si h (fun h=>?_) fun h=>by cbv;cases h;exact fin
 cbv;refine ag h fun x3 me h=>⟨_,ao hM me rfl,?_⟩;cbv;refine ag h fun y4 oc h=>⟨_,_,_,us hc (vh hI hM oc),?_⟩;cbv;refine si h (fun h=>by cbv;cases h;exact fin) fun h=>?_;cbv;exact bY (aW _ _ h)
end Ab
namespace Ab
open Go
set_option maxHeartbeats 4000000
set_option maxRecDepth 100000
theorem L5{α:Type}{I:Pr}(hI:I=al){M:Md}(hM:M= .al){enc:α→List AV}{l:List α}(h:I.fR (M.map enc l)=0):l=[]:=by
 subst hI;subst hM;have h:(l.map enc).length=0:=h
 cases l with
 |nil=>rfl
 |cons x r=>simp at h
theorem acV{α:Type}{b:Nat}{l:List α}(h:KE b ([]:List α) []=some l):l=[]:=by
 unfold KE at h;simp at h;exact h
theorem xm{I:Pr}(hI:I=al){M:Md}(hM:M= .al){n:Nat}{a0:List Int}{v:List Int}(h:kE I M n a0=some v)(g:Nat→Option Ob)(nx:Nat){s:Nat}(r:Nat):
  lA PP 86 [(.sl s (M.map aq a0))] g nx (.sl r (M.map aq v)) g nx:=by
 obtain⟨wrap,add,sub,mul,aU,bg,uT,seq,cat,beq,not,pick,SE,imax,fR,Py,app,DW,Kv,flat,chunk,rep,set,room,within,nat,CX,ny,nr⟩:=I;obtain⟨map,ln⟩:=M;refine Cq lay mixed Go.Proofs.Tryz.func86 (c:=c86) (by kernel_rfl) rfl r [] aeU aji [] gL (sX PP gL) (cl0 gL) 0 (by kernel_rfl) 8 Go.Proofs.Tryz.ntmps86 rfl (rs:=[.tmp 2]) (by kernel_rfl) hI fun call hc=>?_;cbv;intro b hb;cbv;refine⟨fun ye=>?_,fun GY=>?_⟩
 ·have h0:=L5 hI hM (hb ye)
  subst h0;cbv;refine ag h fun l1 OF h=>?_;have h1:l1=[]:=by
   have:=acV OF
   exact this
  subst h1;obtain rfl:=oJ h;cbv;all_goals(repeat' apply And.intro)
  all_goals first|trivial|rfl|exact(aJ hM)
 ·cbv;refine⟨_,bl0 (enc:=aq) hM,?_⟩;cbv;refine ag h fun l1 OF h=>?_;refine⟨_,PG (enc:=aq) hI hM OF (fun _=>rfl) rfl (fun _=>rfl),?_⟩;cbv;obtain rfl:=oJ h;cbv;all_goals(repeat' apply And.intro)
  all_goals first|trivial|rfl|exact(aJ hM)
theorem yf{I:Pr}(hI:I=al){M:Md}(hM:M= .al){n nx r s:Nat}{g:Nat→Option Ob}{a0:List Int}{v:List Int}(h:kE I M n a0=some v):cv 86 [(.sl s (M.map aq a0))] (.sl r (M.map aq v)) g nx:=⟨enters Go.Proofs.Tryz.func86 (c:=c86) (by kernel_rfl) (by kernel_rfl),xm hI hM h g nx r⟩
end Ab
namespace Ab
open Go Go.Proofs.Tryz
set_option maxHeartbeats 100000000
set_option maxRecDepth 100000
variable{I:Pr}(hI:I=al){M:Md}(hM:M= .al){n nx r s p q u rl:Nat}{g:Nat→Option Ob}
 include hI hM
theorem fa{a0:af}{a1:ByteArray}{v:Int}(h:dQ I M n a0 a1=some v):
  cv 64 [(.agg (aZ M r a0)),(vs a1)] (vi v) g nx:=by
 refine cS func64 c64 r ae8 ajw [] 22 ntmps64 [.tmp 4] hI fun call hc=>?_;cbv;refine lp h (fun z1=>[(5,(vi z1))]) (fun z1=>[]) fun mK m1 aW z1 h=>?_;dsimp only[An]at h;cbv;refine letE h fun n2 oC h=>⟨_,an hI hM oC,?_⟩;cbv;refine si h (fun h=>?_) fun h=>by cbv;cases h;exact fin
 cbv;refine ag h fun x3 me h=>⟨_,ao hM me rfl,?_⟩;cbv;refine si h (fun h=>by cbv;cases h;exact fin) fun h=>?_;cbv;exact bY (aW _ _ h)
 include hI hM
theorem Kk{a0:Int}{a1:Int}{a2:Int}{v:Bool}(h:BK I M n a0 a1 a2=some v):
  cv 151 [(vi a0),(vi a1),(vi a2)] (vb v) g nx:=have _:=hM;by
 obtain⟨r,_⟩: ∃x:Nat,x=0:=⟨_,rfl⟩;refine cS func151 avi r Zt ab0 [] 15 ntmps151 [.tmp 6] hI fun call hc=>?_;cbv;cases h;exact fin
 include hI hM
theorem ri{a0:ByteArray}{v:Bool}(h:mu I M n a0=some v):
  cv 112 [(vs a0)] (vb v) g nx:=by
 obtain⟨r,_⟩: ∃x:Nat,x=0:=⟨_,rfl⟩;refine cS func112 avH r ZY acy [] 23 ntmps112 [.tmp 2] hI fun call hc=>?_;cbv;refine letE h fun n1 dJ h=>⟨_,gS hI dJ,?_⟩;cbv;refine ag h fun y2 uz h=>⟨_,_,_,us hc (Kk hI hM uz),?_⟩;cbv;refine si h (fun h=>by cbv;cases h;exact fin) fun h=>?_;cbv;refine lp h (fun z3=>[(3,(vi z3))]) (fun z3=>[]) fun mK m1 aW z3 h=>?_;dsimp only[oB]at h;cbv;refine letE h fun n4 He h=>⟨_,gS hI He,?_⟩;cbv;refine si h (fun h=>?_) fun h=>by cbv;cases h;exact fin
 cbv;refine ag h fun x5 rC h=>⟨_,oF rC,?_⟩;cbv;refine ag h fun x6 Fo h=>⟨_,fun hp=>oF (aD Fo hp.1),?_⟩;cbv;refine si h (fun h=>by cbv;cases h;exact fin) fun h=>?_;cbv;exact bY (aW _ _ h)
 include hI hM
theorem dY{a0:Int}{a1:Int}{a2:Int}{v:Bool}(h:fg I M n a0 a1 a2=some v):
  cv 62 [(vi a0),(vi a1),(vi a2)] (vb v) g nx:=have _:=hM;by
 obtain⟨r,_⟩: ∃x:Nat,x=0:=⟨_,rfl⟩;refine cS func62 c62 r afa ajy [] 15 ntmps62 [.tmp 6] hI fun call hc=>?_;cbv;cases h;exact fin
 include hI hM
theorem yh{a0:ai}{v:Int}(h:kJ I M n a0=some v):
  cv 63 [(.agg (ay M r a0))] (vi v) g nx:=by
 refine cS func63 c63 r ae9 ajx [] 150 ntmps63 [.tmp 2] hI fun call hc=>?_;cbv;refine letE h fun n1 dJ h=>⟨_,an hI hM dJ,?_⟩;cbv;refine ag h fun y2 uz h=>⟨_,_,_,us hc (dY hI hM uz),?_⟩;cbv;refine si h (fun h=>by cbv;cases h;exact fin) fun h=>?_;cbv;refine lp h (fun z3=>[(3,(vi z3))]) (fun z3=>[]) fun mK m1 aW z3 h=>?_;dsimp only[fF]at h;cbv;refine letE h fun n4 He h=>⟨_,an hI hM He,?_⟩;cbv;refine si h (fun h=>?_) fun h=>?_
 ·cbv;refine ag h fun x5 rC h=>⟨_,ao hM rC rfl,?_⟩;cbv;refine letE h fun n6 YF h=>⟨_,an hI hM YF,?_⟩;cbv;refine ag h fun y7 Jy h=>⟨_,_,_,us hc (dY hI hM Jy),?_⟩;cbv;refine si h (fun h=>by cbv;cases h;exact fin) fun h=>?_;cbv;exact bY (aW _ _ h)
 cbv;refine ag h fun y9 RP h=>⟨_,_,_,us hc (dY hI hM RP),?_⟩;cbv;refine si h (fun h=>by cbv;cases h;exact fin) fun h=>?_;cbv;refine lp h (fun xV=>[(4,(vi xV))]) (fun xV=>[]) fun D0 m2 eM xV h=>?_;dsimp only[fE]at h;cbv;refine letE h fun yG BQ h=>⟨_,an hI hM BQ,?_⟩;cbv;refine si h (fun h=>?_) fun h=>?_
 ·cbv;refine ag h fun v3 vL h=>⟨_,ao hM vL rfl,?_⟩;cbv;refine ag h fun ue za h=>⟨_,_,_,us hc (dY hI hM za),?_⟩;cbv;refine si h (fun h=>by cbv;cases h;exact fin) fun h=>?_;cbv;exact bY (eM _ _ h)
 cbv;refine ag h fun KN JC h=>⟨_,_,_,us hc (ri hI hM JC),?_⟩;cbv;refine si h (fun h=>by cbv;cases h;exact fin) fun h=>?_;cbv;refine lp h (fun kr=>[(5,(vi kr))]) (fun kr=>[]) fun Nl m3 jO kr h=>?_;dsimp only[fD]at h;cbv;refine letE h fun n17 ag6 h=>⟨_,an hI hM ag6,?_⟩;cbv;refine si h (fun h=>?_) fun h=>?_
 ·cbv;refine ag h fun yo Og h=>⟨_,ao hM Og rfl,?_⟩;cbv;refine ag h fun KP Ap h=>⟨_,fun hp=>ao hM (aD Ap hp.1) rfl,?_⟩;cbv;refine ag h fun PW N4 h=>⟨_,fun hp=>us hc (ri hI hM (aD N4 hp.1)),?_⟩;cbv;refine si h (fun h=>by cbv;cases h;exact fin) fun h=>?_;cbv;exact bY (jO _ _ h)
 cbv;refine lp h (fun D8=>[(6,(vi D8))]) (fun D8=>[]) fun Tf m4 ni D8 h=>?_;dsimp only[fC]at h;cbv;refine letE h fun n23 ami h=>⟨_,an hI hM ami,?_⟩;cbv;refine si h (fun h=>?_) fun h=>?_
 ·cbv;refine ag h fun x24 arL h=>⟨_,ao hM arL rfl,?_⟩;cbv;refine⟨_,an hI hM ami,?_⟩;cbv;refine si h (fun h=>by cbv;cases h;exact fin) fun h=>?_;cbv;exact bY (ni _ _ h)
 cbv;refine lp h (fun zU=>[(8,(vi zU))]) (fun zU=>[]) fun TG m5 oX zU h=>?_;dsimp only[dO]at h;cbv;refine letE h fun n27 ar4 h=>⟨_,an hI hM ar4,?_⟩;cbv;refine si h (fun h=>?_) fun h=>by cbv;cases h;exact fin
 cbv;refine lp h (fun Dv=>[(9,(vi Dv))]) (fun Dv=>[]) fun Rm6 m6 rG Dv h=>?_
 as_aux_lemma=>
  dsimp only[fB]at h;cbv;refine si h (fun h=>?_) fun h=>?_
  ·cbv;refine ag h fun sx US h=>?_;refine ag h fun fO Oe h=>?_;refine ag h fun x31 agp h=>?_;refine ag h fun Zc UR h=>?_;apply Exists.intro;refine⟨?_,_,rfl,?_⟩
   ·cbv;(repeat' first|exact .inl rfl|exact trivial|(refine⟨_,ao hM US rfl,?_⟩;cbv)|(refine⟨_,ao hM Oe rfl,?_⟩;cbv)|(refine⟨_,fun hp=>ao hM (aD agp hp.1) rfl,?_⟩;cbv)|(refine⟨_,fun hp=>ao hM (aD UR hp.1) rfl,?_⟩;cbv)|apply And.intro);all_goals exact bn
   cbv;refine si h (fun h=>by cbv;cases h;exact fin) fun h=>?_;cbv;exact bY (rG _ _ h)
  cbv;exact bY (oX _ _ h)
 include hI hM
theorem Hm{a0:List aH}{v:List Bool}(h:uy I M n a0=some v):
  cv 113 [(.sl r (M.map (bB M r) a0))] (.sl r (M.map bV v)) g nx:=by
 refine cS func113 avG r ZX acx [] 56 ntmps113 [.tmp 2] hI fun call hc=>?_;cbv;refine lp h (fun(l1,z2)=>[(3,(.gs r (.l 54) (M.map bV l1))),(4,(vi z2))]) (fun _=>[]) fun mK m1 aW st h=>?_;obtain⟨l1,z2⟩:=st;dsimp only[mV]at h;cbv;refine letE h fun n3 qn3 h=>⟨_,an hI hM qn3,?_⟩;cbv;refine si h (fun h=>?_) fun h=>by cbv;cases h;exact fin
 cbv;refine ag h fun x4 vW h=>⟨_,ao hM vW rfl,?_⟩;cbv;refine lp h (fun(z5,z6)=>[(5,(vb z5)),(6,(vi z6))]) (fun _=>[]) fun D0 m2 eM st h=>?_;obtain⟨z5,z6⟩:=st;dsimp only[kK]at h;cbv;refine ag h fun x7 RW h=>⟨_,ao hM RW rfl,?_⟩;cbv;refine letE h fun n8 qn8 h=>⟨_,an hI hM qn8,?_⟩;cbv;refine si h (fun h=>?_) fun h=>?_
 ·cbv;refine ag h fun x9 qx9 h=>⟨_,fun hp=>ao hM (aD qx9 hp.1) rfl,?_⟩;cbv;refine ag h fun Dz BN h=>⟨_,fun hp=>ao hM (aD (aD BN hp.1) hp.2.1) rfl,?_⟩;cbv;refine ag h fun Ac DC h=>⟨_,fun hp=>ao hM (aD (aD DC hp.1) hp.2.1) rfl,?_⟩;cbv;refine ag h fun v3 vL h=>⟨_,fun hp=>ao hM (aD (aD vL hp.1) hp.2.1) rfl,?_⟩;cbv;exact bY (eM _ _ h)
 cbv;refine⟨_,cC (enc:=bV) (x:=z5) hM (ak _) rfl,?_⟩;cbv;refine ag h fun vN ahy h=>⟨_,ax (enc:=bV) hI hM ahy (fun _=>rfl) rfl (fun _=>rfl),?_⟩;cbv;exact bY (aW _ _ h)
 include hI hM
theorem Cn{a0:af}{a1:ai}{a2:ah}{a3:Int}{v:Int}(h:lI I M n a0 a1 a2 a3=some v):
  cv 65 [(.agg (aZ M r a0)),(.agg (ay M r a1)),(.agg (az M r a2)),(vi a3)] (vi v) g nx:=by
 refine cS func65 c65 r ae7 ajv [] 149 ntmps65 [.tmp 8] hI fun call hc=>?_;cbv;refine ag h fun x1 qx1 h=>⟨_,ao hM qx1 rfl,?_⟩;cbv;refine ag h fun y2 uz h=>⟨_,_,_,us hc (dY hI hM uz),?_⟩;cbv;refine si h (fun h=>by cbv;cases h;exact fin) fun h=>?_;cbv;refine ag h fun y3 JA h=>⟨_,fun hp=>us hc (ri hI hM (aD (aD JA hp.1) hp.2.1)),?_⟩;cbv;refine si h (fun h=>by cbv;cases h;exact fin) fun h=>?_;cbv;refine ag h fun y4 oc h=>⟨_,fun hp=>us hc (dY hI hM (aD oc hp.1)),?_⟩;cbv;refine ag h fun y5 Jz h=>⟨_,fun hp=>us hc (dY hI hM (aD (aD Jz hp.1) hp.2.1)),?_⟩;cbv;refine si h (fun h=>by cbv;cases h;exact fin) fun h=>?_;cbv;refine letE h fun n6 YF h=>⟨_,an hI hM YF,?_⟩;cbv;refine⟨_,an hI hM YF,?_⟩;cbv;refine si h (fun h=>by cbv;cases h;exact fin) fun h=>?_;cbv;refine lp h (fun z7=>[(10,(vi z7))]) (fun z7=>[]) fun mK m1 aW z7 h=>?_;dsimp only[jd]at h;cbv;refine letE h fun n8 qn8 h=>⟨_,an hI hM qn8,?_⟩;cbv;refine si h (fun h=>?_) fun h=>?_
 ·cbv;refine ag h fun x9 qx9 h=>⟨_,ao hM qx9 rfl,?_⟩;cbv;refine ag h fun yU wq h=>⟨_,_,_,us hc (dY hI hM wq),?_⟩;cbv;refine si h (fun h=>by cbv;cases h;exact fin) fun h=>?_;cbv;exact bY (aW _ _ h)
 cbv;refine si h (fun h=>by cbv;cases h;exact fin) fun h=>?_;cbv;refine ag h fun Ns N7 h=>⟨_,_,_,us hc (fa hI hM N7),?_⟩;cbv;refine si h (fun h=>by cbv;cases h;exact fin) fun h=>?_;cbv;refine letE h fun n13 ag8 h=>?_;refine ag h fun yp Ft h=>?_;apply Exists.intro;refine⟨?_,_,rfl,?_⟩
 ·cbv;repeat' first|exact .inl rfl|exact trivial|(refine⟨_,an hI hM ag8,?_⟩;cbv)|(refine⟨_,ao hM Ft rfl,?_⟩;cbv)|apply And.intro
  all_goals exact bn
 cbv;refine si h (fun h=>by cbv;cases h;exact fin) fun h=>?_;cbv;refine ag h fun vN ahy h=>⟨_,Kw hI hM ahy (fun _=>rfl),?_⟩;cbv;refine ag h fun KX JB h=>⟨_,_,_,us hc (Hm hI hM JB),?_⟩;cbv;refine lp h (fun GS=>[(13,(vi GS))]) (fun GS=>[]) fun D0 m2 eM GS h=>?_;dsimp only[jc]at h;cbv;refine letE h fun OU Ov h=>⟨_,an hI hM Ov,?_⟩;cbv;refine si h (fun h=>?_) fun h=>by cbv;cases h;exact fin
 cbv;refine ag h fun KP Ap h=>⟨_,ao hM Ap rfl,?_⟩;cbv;refine ag h fun eR JE h=>⟨_,ao hM JE rfl,?_⟩;cbv;refine si h (fun h=>by cbv;cases h;exact fin) fun h=>?_
 as_aux_lemma=>
  cbv;exact bY (eM _ _ h)
 include hI hM
theorem Gk{a0:af}{v:Int}(h:rW I M n a0=some v):
  cv 14 [(.agg (aZ M r a0))] (vi v) g nx:=by
 refine cS func14 c14 r afH aj5 [] 101 ntmps14 [.tmp 2] hI fun call hc=>?_;cbv;refine letE h fun n1 dJ h=>⟨_,an hI hM dJ,?_⟩;cbv;refine ag h fun y2 uz h=>⟨_,_,_,us hc (dY hI hM uz),?_⟩;cbv;refine si h (fun h=>by cbv;cases h;exact fin) fun h=>?_;cbv;refine lp h (fun z3=>[(3,(vi z3))]) (fun z3=>[]) fun mK m1 aW z3 h=>?_;dsimp only[lN]at h;cbv;refine letE h fun n4 He h=>⟨_,an hI hM He,?_⟩;cbv;refine si h (fun h=>?_) fun h=>?_
 ·cbv;refine ag h fun x5 rC h=>⟨_,ao hM rC rfl,?_⟩;cbv;refine ag h fun y6 Ao h=>⟨_,_,_,us hc (yh hI hM Ao),?_⟩;cbv;refine si h (fun h=>by cbv;cases h;exact fin) fun h=>?_;cbv;exact bY (aW _ _ h)
 cbv;refine lp h (fun z8=>[(5,(vi z8))]) (fun z8=>[]) fun D0 m2 eM z8 h=>?_;dsimp only[lM]at h;cbv;refine letE h fun n9 qn9 h=>⟨_,an hI hM qn9,?_⟩;cbv;refine si h (fun h=>?_) fun h=>?_
 ·cbv;refine ag h fun Dz BN h=>?_;refine ag h fun uf BM h=>?_;apply Exists.intro;refine⟨?_,_,rfl,?_⟩
  ·cbv;(repeat' first|exact .inl rfl|exact trivial|(refine⟨_,ao hM BN rfl,?_⟩;cbv)|(refine⟨_,_,_,us hc (fa hI hM BM),?_⟩;cbv)|apply And.intro);all_goals exact bn
  cbv;refine si h (fun h=>by cbv;cases h;exact fin) fun h=>?_;cbv;exact bY (eM _ _ h)
 cbv;refine lp h (fun lV=>[(6,(vi lV))]) (fun lV=>[]) fun Nl m3 jO lV h=>?_;dsimp only[lL]at h;cbv;refine letE h fun DG Fx h=>⟨_,an hI hM Fx,?_⟩;cbv;refine si h (fun h=>?_) fun h=>by cbv;cases h;exact fin
 cbv;refine lp h (fun Bz=>[(7,(vi Bz)),(52,.any)]) (fun Bz=>[]) fun Tf m4 ni Bz h=>?_;dsimp only[lK]at h;cbv;refine ag h fun x16 UU h=>⟨_,ao hM UU rfl,?_⟩;cbv;refine letE h fun n17 ag6 h=>⟨_,an hI hM ag6,?_⟩;cbv;refine si h (fun h=>?_) fun h=>?_
 ·as_aux_lemma=>
   cbv;refine⟨_,ao hM UU rfl,?_⟩;cbv;refine ag h fun yo Og h=>⟨_,ao hM Og rfl,?_⟩;cbv;refine lp h (fun fM=>[(9,(vi fM))]) (fun fM=>[]) fun TG m5 oX fM h=>?_;dsimp only[lJ]at h;cbv;refine letE h fun n20 ag5 h=>⟨_,an hI hM ag5,?_⟩;cbv;refine si h (fun h=>?_) fun h=>?_
   ·cbv;refine ag h fun Aa agq h=>?_;refine ag h fun YA UH h=>?_;apply Exists.intro;refine⟨?_,_,rfl,?_⟩
    ·cbv;(repeat' first|exact .inl rfl|exact trivial|(refine⟨_,ao hM agq rfl,?_⟩;cbv)|(refine⟨_,_,_,us hc (Cn hI hM UH),?_⟩;cbv)|apply And.intro);all_goals exact bn
    cbv;refine si h (fun h=>by cbv;cases h;exact fin) fun h=>?_;cbv;exact bY (oX _ _ h)
   cbv;refine letE h fun n24 ar6 h=>⟨_,an hI hM ar6,?_⟩;cbv;refine ag h fun y25 af1 h=>⟨_,_,_,us hc (dY hI hM af1),?_⟩;cbv;refine si h (fun h=>by cbv;cases h;exact fin) fun h=>?_;cbv;exact bY (ni _ _ h)
 cbv;exact bY (jO _ _ h)
 include hI hM
theorem yg{a0:ah}{a1:ah}{v:Bool}(h:kI I M n a0 a1=some v):
  cv 69 [(.agg (az M p a0)),(.agg (az M r a1))] (vb v) g nx:=by
 refine cS func69 c69 r ae5 ajt [] 100 ntmps69 [.tmp 4] hI fun call hc=>?_;cbv;refine letE h fun n1 dJ h=>⟨_,an hI hM dJ,?_⟩;cbv;refine letE h fun n2 oC h=>⟨_,an hI hM oC,?_⟩;cbv;refine si h (fun h=>by cbv;cases h;exact fin) fun h=>?_;cbv;refine lp h (fun z3=>[(5,(vi z3)),(36,.any)]) (fun z3=>[]) fun mK m1 aW z3 h=>?_;dsimp only[iF]at h;cbv;refine letE h fun n4 He h=>⟨_,an hI hM He,?_⟩;cbv;refine si h (fun h=>?_) fun h=>by cbv;cases h;exact fin
 cbv;refine ag h fun x5 rC h=>?_;refine ag h fun x6 Fo h=>?_;refine aY none [(6,(.ptr (.s 6) 0)),(7,(.ptr (.s 7) 0))] [(6,.box [(vi x5.kind),(vs x5.name),(vi x5.num),(.sl p (M.map aq x5.args))]),(7,.box [(vi x6.kind),(vs x6.name),(vi x6.num),(.sl r (M.map aq x6.args))])] g nx ?_ ?_
 ·cbv;repeat' first|exact .inl rfl|exact trivial|(refine⟨_,ao hM rC rfl,?_⟩;cbv)|(refine⟨_,ao hM Fo rfl,?_⟩;cbv)|apply And.intro
  all_goals exact bn
 cbv;refine letE h fun n7 qn7 h=>⟨_,an hI hM qn7,?_⟩;cbv;refine letE h fun n8 qn8 h=>⟨_,an hI hM qn8,?_⟩;cbv;refine si h (fun h=>by cbv;cases h;exact fin) fun h=>?_;cbv;refine lp h (fun z9=>[(8,(vi z9))]) (fun z9=>[]) fun D0 m2 eM z9 h=>?_;dsimp only[iE]at h;cbv;refine letE h fun BW BR h=>⟨_,an hI hM BR,?_⟩;cbv;refine si h (fun h=>?_) fun h=>?_
 ·cbv;refine ag h fun Ac DC h=>?_;refine ag h fun v3 vL h=>?_;apply Exists.intro;refine⟨?_,_,rfl,?_⟩
  ·cbv;(repeat' first|exact .inl rfl|exact trivial|(refine⟨_,ao hM DC rfl,?_⟩;cbv)|(refine⟨_,ao hM vL rfl,?_⟩;cbv)|apply And.intro);all_goals exact bn
  cbv;refine si h (fun h=>by cbv;cases h;exact fin) fun h=>?_;cbv;exact bY (eM _ _ h)
 cbv;exact bY (aW _ _ h)
 include hI hM
theorem jw{a0:af}{a1:af}{v:Bool}(h:dP I M n a0 a1=some v):
  cv 18 [(.agg (aZ M p a0)),(.agg (aZ M r a1))] (vb v) g nx:=by
 refine cS func18 c18 r afG aj4 [] 73 ntmps18 [.tmp 4] hI fun call hc=>?_;cbv;refine letE h fun n1 dJ h=>⟨_,an hI hM dJ,?_⟩;cbv;refine letE h fun n2 oC h=>⟨_,an hI hM oC,?_⟩;cbv;refine si h (fun h=>by cbv;cases h;exact fin) fun h=>?_;cbv;refine lp h (fun z3=>[(5,(vi z3)),(15,.any)]) (fun z3=>[]) fun mK m1 aW z3 h=>?_;dsimp only[qo]at h;cbv;refine letE h fun n4 He h=>⟨_,an hI hM He,?_⟩;cbv;refine si h (fun h=>?_) fun h=>by cbv;cases h;exact fin
 cbv;refine ag h fun x5 rC h=>?_;refine ag h fun x6 Fo h=>?_;refine aY none [(6,(.ptr (.s 6) 0)),(7,(.ptr (.s 7) 0))] [(6,.box [(vs x5.name),(vi x5.aG),(.sl p (M.map (az M p) x5.ae))]),(7,.box [(vs x6.name),(vi x6.aG),(.sl r (M.map (az M r) x6.ae))])] g nx ?_ ?_
 ·cbv;repeat' first|exact .inl rfl|exact trivial|(refine⟨_,ao hM rC rfl,?_⟩;cbv)|(refine⟨_,ao hM Fo rfl,?_⟩;cbv)|apply And.intro
  all_goals exact bn
 cbv;refine letE h fun n7 qn7 h=>⟨_,an hI hM qn7,?_⟩;cbv;refine letE h fun n8 qn8 h=>⟨_,an hI hM qn8,?_⟩;cbv;refine si h (fun h=>by cbv;cases h;exact fin) fun h=>?_;cbv;refine lp h (fun z9=>[(8,(vi z9))]) (fun z9=>[]) fun D0 m2 eM z9 h=>?_;dsimp only[qn]at h;cbv;refine letE h fun BW BR h=>⟨_,an hI hM BR,?_⟩;cbv;refine si h (fun h=>?_) fun h=>?_
 ·cbv;refine ag h fun Ac DC h=>?_;refine ag h fun v3 vL h=>?_;refine ag h fun ue za h=>?_;apply Exists.intro;refine⟨?_,_,rfl,?_⟩
  ·cbv;(repeat' first|exact .inl rfl|exact trivial|(refine⟨_,ao hM DC rfl,?_⟩;cbv)|(refine⟨_,ao hM vL rfl,?_⟩;cbv)|(refine⟨_,_,_,us hc (yg hI hM za),?_⟩;cbv)|apply And.intro);all_goals exact bn
  cbv;refine si h (fun h=>by cbv;cases h;exact fin) fun h=>?_;cbv;exact bY (eM _ _ h)
 cbv;exact bY (aW _ _ h)
 include hI hM
theorem nv{a0:aH}{v:Bool}(h:eh I M n a0=some v):
  cv 83 [(.agg (bB M r a0))] (vb v) g nx:=have _:=hM;by
 refine cS func83 c83 r aeX ajl [] 11 ntmps83 [.tmp 2] hI fun call hc=>?_;cbv;cases h;exact fin
 include hI hM
theorem yI{a0:aH}{a1:aH}{v:Bool}(h:j5 I M n a0 a1=some v):
  cv 124 [(.agg (bB M r a0)),(.agg (bB M r a1))] (vb v) g nx:=by
 refine cS func124 avB r ZP aco [] 52 ntmps124 [.tmp 4] hI fun call hc=>?_;cbv;refine letE h fun n1 dJ h=>⟨_,an hI hM dJ,?_⟩;cbv;refine letE h fun n2 oC h=>⟨_,an hI hM oC,?_⟩;cbv;refine si h (fun h=>by cbv;cases h;exact fin) fun h=>?_;cbv;refine lp h (fun z3=>[(5,(vi z3))]) (fun z3=>[]) fun mK m1 aW z3 h=>?_;dsimp only[ql]at h;cbv;refine letE h fun n4 He h=>⟨_,an hI hM He,?_⟩;cbv;refine si h (fun h=>?_) fun h=>by cbv;cases h;exact fin
 cbv;refine ag h fun x5 rC h=>?_;refine ag h fun x6 Fo h=>?_;apply Exists.intro;refine⟨?_,_,rfl,?_⟩
 ·cbv;repeat' first|exact .inl rfl|exact trivial|(refine⟨_,ao hM rC rfl,?_⟩;cbv)|(refine⟨_,ao hM Fo rfl,?_⟩;cbv)|apply And.intro
  all_goals exact bn
 cbv;refine si h (fun h=>by cbv;cases h;exact fin) fun h=>?_;cbv;exact bY (aW _ _ h)
 include hI hM
theorem Hk{a0:af}{a1:List (List Bool)}{a2:ah}{a3:ah}{v:Bool}(h:ux I M n a0 a1 a2 a3=some v):
  cv 82 [(.agg (aZ M r a0)),(.sl s (M.map (eSl M s bV) a1)),(.agg (az M r a2)),(.agg (az M r a3))] (vb v) g nx:=by
 refine cS func82 c82 r aeY ajm [] 90 ntmps82 [.tmp 8] hI fun call hc=>?_;cbv;refine letE h fun n1 dJ h=>⟨_,an hI hM dJ,?_⟩;cbv;refine letE h fun n2 oC h=>⟨_,an hI hM oC,?_⟩;cbv;refine si h (fun h=>by cbv;cases h;exact fin) fun h=>?_;cbv;refine lp h (fun z3=>[(9,(vi z3))]) (fun z3=>[]) fun mK m1 aW z3 h=>?_;dsimp only[qm]at h;cbv;refine letE h fun n4 He h=>⟨_,an hI hM He,?_⟩;cbv;refine si h (fun h=>?_) fun h=>by cbv;cases h;exact fin
 cbv;refine ag h fun x5 rC h=>?_;refine ag h fun x6 Fo h=>?_;refine aY none [(10,(.ptr (.s 10) 0)),(11,(.ptr (.s 11) 0))] [(10,.box [(vi x5.kind),(vs x5.name),(vi x5.num),(.sl r (M.map aq x5.args))]),(11,.box [(vi x6.kind),(vs x6.name),(vi x6.num),(.sl r (M.map aq x6.args))])] g nx ?_ ?_
 ·cbv;repeat' first|exact .inl rfl|exact trivial|(refine⟨_,ao hM rC rfl,?_⟩;cbv)|(refine⟨_,ao hM Fo rfl,?_⟩;cbv)|apply And.intro
  all_goals exact bn
 cbv;refine ag h fun y7 Jy h=>⟨_,_,_,us hc (nv hI hM Jy),?_⟩;cbv;refine ag h fun y8 N2 h=>⟨_,fun hp=>us hc (nv hI hM (aD N2 hp.1)),?_⟩;cbv;refine si h (fun h=>?_) fun h=>?_
 ·cbv;refine ag h fun y9 RP h=>?_;refine ag h fun Dz BN h=>?_;refine ag h fun uf BM h=>?_;refine ag h fun v3 vL h=>?_;apply Exists.intro;refine⟨?_,_,rfl,?_⟩
  ·cbv;(repeat' first|exact .inl rfl|exact trivial|(refine⟨_,_,_,us hc (fa hI hM RP),?_⟩;cbv)|(refine⟨_,ao hM BN rfl,?_⟩;cbv)|(refine⟨_,_,_,us hc (fa hI hM BM),?_⟩;cbv)|(refine⟨_,ao hM vL rfl,?_⟩;cbv)|apply And.intro);all_goals exact bn
  cbv;refine si h (fun h=>by cbv;cases h;exact fin) fun h=>?_;cbv;refine ag h fun ue za h=>⟨_,_,_,us hc (yI hI hM za),?_⟩;cbv;refine si h (fun h=>by cbv;cases h;exact fin) fun h=>?_;cbv;exact bY (aW _ _ h)
 cbv;refine ag h fun Nr N6 h=>⟨_,_,_,us hc (yI hI hM N6),?_⟩;cbv;refine si h (fun h=>by cbv;cases h;exact fin) fun h=>?_;cbv;exact bY (aW _ _ h)
 include hI hM
theorem AZ{a0:List Int}{a1:Int}{v:Bool}(h:td I M n a0 a1=some v):
  cv 84 [(.sl r (M.map aq a0)),(vi a1)] (vb v) g nx:=by
 refine cS func84 c84 r aeW ajk [] 18 ntmps84 [.tmp 4] hI fun call hc=>?_;cbv;refine lp h (fun z1=>[(5,(vi z1))]) (fun z1=>[]) fun mK m1 aW z1 h=>?_;dsimp only[oK]at h;cbv;refine letE h fun n2 oC h=>⟨_,an hI hM oC,?_⟩;cbv;refine si h (fun h=>?_) fun h=>by cbv;cases h;exact fin
 cbv;refine ag h fun x3 me h=>⟨_,ao hM me rfl,?_⟩;cbv;refine si h (fun h=>by cbv;cases h;exact fin) fun h=>?_;cbv;exact bY (aW _ _ h)
 include hI hM
theorem Hl{a0:af}{a1:ByteArray}{v:af×Int}(h:nZ I M n a0 a1=some v):
  cv 28 [(.agg (aZ M r a0)),(vs a1)] (.gw [(.agg (aZ M r v.1)),(vi v.2)]) g nx:=by
 refine cS func28 c28 r afA ajY [23000081] 103 ntmps28 [.cell 4 24,.tmp 5] hI fun call hc=>?_;cbv;refine ag h fun y1 c9 h=>⟨_,_,_,us hc (fa hI hM c9),?_⟩;cbv;refine si h (fun h=>by cbv;cases h;exact fin) fun h=>?_;cbv;refine⟨_,cC (enc:=aq) (x:=y1) hM (ak _) rfl,?_⟩;cbv;refine lp h (fun(l2,z3)=>[(7,(.gs r (.l 81) (M.map aq l2))),(8,(vi z3)),(19,.any)]) (fun _=>[]) fun mK m1 aW st h=>?_;obtain⟨l2,z3⟩:=st;dsimp only[dX]at h;cbv;refine letE h fun n4 He h=>⟨_,an hI hM He,?_⟩;cbv;refine si h (fun h=>?_) fun h=>?_
 ·as_aux_lemma=>
   cbv;refine ag h fun x5 rC h=>?_;refine ag h fun x6 Fo h=>?_;apply Exists.intro;refine⟨?_,_,rfl,?_⟩
   ·cbv;(repeat' first|exact .inl rfl|exact trivial|(refine⟨_,ao hM rC rfl,?_⟩;cbv)|(refine⟨_,ao hM Fo rfl,?_⟩;cbv)|apply And.intro);all_goals exact bn
   cbv;refine lp h (fun(z7,l8)=>[(7,(.gs r (.l 81) (M.map aq l8))),(10,(vi z7)),(26,.any)]) (fun _=>[]) fun D0 m2 eM st h=>?_;obtain⟨z7,l8⟩:=st;dsimp only[kH]at h;cbv;refine letE h fun n9 qn9 h=>⟨_,an hI hM qn9,?_⟩;cbv;refine si h (fun h=>?_) fun h=>?_
   ·as_aux_lemma=>
     cbv;refine lp h (fun(xV,zX)=>[(7,(.gs r (.l 81) (M.map aq zX))),(11,(vi xV))]) (fun _=>[]) fun Nl m3 jO st h=>?_;obtain⟨xV,zX⟩:=st;dsimp only[kG]at h;cbv;refine ag h fun v3 vL h=>⟨_,ao hM vL rfl,?_⟩;cbv;refine letE h fun n13 ag8 h=>⟨_,an hI hM ag8,?_⟩;cbv;refine si h (fun h=>?_) fun h=>?_
     ·cbv;refine⟨_,ao hM vL rfl,?_⟩;cbv;refine ag h fun yp Ft h=>⟨_,ao hM Ft rfl,?_⟩;cbv;refine ag h fun KN JC h=>⟨_,_,_,us hc (nv hI hM JC),?_⟩;cbv;refine ag h fun KX JB h=>⟨_,fun hp=>us hc (fa hI hM (aD JB hp.1)),?_⟩;cbv;refine ag h fun Nq N5 h=>⟨_,fun hp=>us hc (AZ hI hM (aD N5 hp.1)),?_⟩;cbv;refine si h (fun h=>?_) fun h=>?_
      ·cbv;refine ag h fun Np UI h=>⟨_,_,_,us hc (fa hI hM UI),?_⟩;cbv;refine⟨_,cC (enc:=aq) (x:=Np) hM (ak _) rfl,?_⟩;cbv;refine ag h fun Sv ahv h=>⟨_,ax (enc:=aq) hI hM ahv (fun _=>rfl) rfl (fun _=>rfl),?_⟩;cbv;exact bY (jO _ _ h)
      cbv;exact bY (jO _ _ h)
     cbv;exact bY (eM _ _ h)
   cbv;exact bY (aW _ _ h)
 cbv;refine lp h (fun(H8,TM)=>[(14,(vi TM))]) (fun(H8,TM)=>[(13,.box [(.gs r (.c 13 0) (M.map (ay M r) H8))])]) fun Tf m4 ni st h=>?_;obtain⟨H8,TM⟩:=st;dsimp only[iD]at h;cbv;refine letE h fun n28 ar3 h=>⟨_,an hI hM ar3,?_⟩;cbv;refine si h (fun h=>?_) fun h=>by cbv;cases h;exact fin
 cbv;refine ag h fun Yz RU h=>⟨_,_,_,us hc (AZ hI hM RU),?_⟩;cbv;refine si h (fun h=>?_) fun h=>?_
 ·cbv;refine ag h fun fO Oe h=>?_;refine ag h fun Su asd h=>?_;apply Exists.intro;refine⟨?_,_,rfl,?_⟩
  ·cbv;(repeat' first|exact .inl rfl|exact trivial|(refine⟨_,ao hM Oe rfl,?_⟩;cbv)|(refine⟨_,cC (enc:=(ay M r)) (x:=fO) hM (ak _) rfl,?_⟩;cbv)|(refine⟨_,ax (enc:=(ay M r)) hI hM asd (fun _=>rfl) rfl (fun _=>rfl),?_⟩;cbv)|apply And.intro);all_goals exact bn
  cbv;exact bY (ni _ _ h)
 cbv;exact bY (ni _ _ h)
end Ab
