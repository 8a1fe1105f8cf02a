/- PassesAll holds of all pairs of cores (no condition): a part of the proof: an abstract interpreter of the code that is proved sound, models of the functions, and laws of these models. -/
import Derived.Test.YtcdinjhcnhepeaaGreatDoorA02
import Derived.Test.YtcdinjhcnhepeaaGreatDoorA03
import Derived.Test.YtcdinjhcnhepeaaGreatDoorA04
set_option linter.unusedVariables false
set_option linter.unusedSimpArgs false
set_option linter.unusedSectionVars false
namespace Ab
open Go
set_option maxHeartbeats 4000000
set_option maxRecDepth 100000
abbrev bW(M:Md)(r:Nat)(br:ag)(m:Nat)(o6:List AV)(l:List Bool):List (Nat×Ob):=
 [(3,.box [.jB (.s 12) m]),(4,.box [.fn (.func 111) [.ptr (.s 3) 0,.aX r (aB M r br) 0,.ptr (.s 4) 0]]),(6,.box o6),(12,.arr 1 (M.map cS l))]
structure Hok(M:Md)(r:Nat)(br:ag)(m:Nat)(o6:List AV)(g:Nat→Option Ob)(nx:Nat)(t:List (Nat×AV))(up:List Fr):Prop where
 ok: ∀l,S4 ⟨36,t,bW M r br m o6 l,[],g,nx,up,false⟩=true
 t:wkT t t
 u:wkU up up
abbrev Hand:=YH→Nat→List AV→St→bB→Prop
def QB(I:Pr)(M:Md)(n:Nat)(r:Nat)(br:ag)(m:Nat)(o6:List AV)(g:Nat→Option Ob)(nx:Nat)(k:Nat)(J:Hand):Prop:=
 ∀(yl:YH) (l:List Bool) (x:Int) (l':List Bool) (t:List (Nat×AV)) (up:List Fr) (K:bB),zW I M n br m k l x=some l'→Hok M r br m o6 g nx t up→
  K (.gY []) ⟨36,t,bW M r br m o6 l',[],g,nx,up,false⟩→J yl 111 [vi x,.ptr (.s 3) 0,.aX r (aB M r br) 0,.ptr (.s 4) 0] ⟨36,t,bW M r br m o6 l,[],g,nx,up,false⟩ K
theorem F9{M:Md}{r:Nat}{br:ag}{m:Nat}{o6:List AV}{g:Nat→Option Ob}{nx:Nat}{t0 t1:List (Nat×AV)}{up0:List Fr}{l:List Bool}(h1:WO (bW M r br m o6 l) t1=true)
  (h:S4 ⟨36,t0,bW M r br m o6 l,[],g,nx,up0,false⟩=true):S4 ⟨36,t1,bW M r br m o6 l,[],g,nx,⟨36,t0⟩::up0,false⟩=true:=by
 simp only[S4,okU,Bool.and_eq_true]at h ⊢;exact⟨h1,h.2.1,h.1,h.2.2⟩
theorem adk{I:Pr}(hI:I=ak){M:Md}(hM:M= .ak){n r:Nat}{br:ag}{m:Nat}{o6:List AV}{g:Nat→Option Ob}{nx:Nat}{k:Nat}{call:qH}(bb:Nat)(J JR:Hand)(yl:YH)
  (hJ:QB I M n r br m o6 g nx k J){l:List Bool}{x:Int}{l':List Bool}{t0:List (Nat×AV)}{up0:List Fr}{K:bB}(h:zW I M n br m (k+1) l x=some l')(jX:Hok M r br m o6 g nx t0 up0)
  (hK:K (.gY []) ⟨36,t0,bW M r br m o6 l',[],g,nx,up0,false⟩):
  rS {I:=I,L:=L,ρ:=r,sh:=[],tree:=QS,call:=call,base:=bb,op:=[],dead:=RO,uU:=xb (wQ 111 (Nz r) fun _=>none),inl:=J,CI:=JR,yl:=yl,cl:=im,keys:=mv,eqs:=uk} akE
   (GU 36 [vi x,.ptr (.s 3) 0,.aX r (aB M r br) 0,.ptr (.s 4) 0] ⟨36,t0,bW M r br m o6 l,[],g,nx,up0,false⟩)
   (abu I L [] (bW M r br m o6 l) K):=by
 obtain⟨wrap,add,sub,mul,aS,bf,rL,seq,cat,beq,not,pick,Ts,imax,fV,Qp,app,CZ,K8,flat,chunk,rep,set,room,within,nat,Ge,nz,nr⟩:=I;obtain⟨map,ln⟩:=M;dsimp only[zW]at h;cbv;refine ah h fun k1 qk1 h=>?_;refine⟨_,aL hI qk1,?_⟩;cbv;refine ah h fun x2 Q4 h=>?_;refine⟨_,_,rfl,bj hM Q4,rfl,?_⟩;cbv;refine EP h rfl (fun h=>?_) (fun h=>?_)
 ·cbv;obtain rfl:=o5 h;have e:=jX.ok l
  cbv at e;refine⟨by rw[e],?_⟩;cbv;exact hK
 ·cbv;refine ah h fun l3 Q6 h=>?_;refine⟨_,aL hI qk1,?_⟩;cbv;refine⟨_,dV hI hM Q4 Q6 (by decide) rfl rfl,?_⟩;cbv;refine ah h fun x4 ur h=>?_;refine⟨_,aq hM ur rfl,?_⟩;cbv;refine EP h rfl (fun h=>?_) (fun h=>?_)
  ·cbv;refine⟨_,aq hM ur rfl,?_⟩;cbv;refine letE h fun n5 SS h=>?_;refine⟨_,an hI hM SS,?_⟩;cbv;refine step_loop h none (fun st=>[(28,vi st.2)]) (fun st=>[(12,.arr 1 (map cS st.1))]) (fun _=>g) (fun _=>nx) ?_ (fun R1 m1 hR1 st h=>?_)
   ·refine⟨rfl,rfl,rfl,rfl,rfl,?_,⟨ao _,ao _,ao _,⟨rfl,rfl⟩,trivial⟩,⟨⟨rfl,jX.t⟩,jX.u⟩,F9 rfl (jX.ok l3),rfl⟩;cbv;(all_goals(repeat' apply And.intro));all_goals first|trivial|rfl|exact(aK hM)
   ·obtain⟨l6,z7⟩:=st;cbv;refine EP h rfl (fun h=>?_) (fun h=>?_)
    ·cbv;refine ah h fun x8 Q3 h=>?_;refine⟨_,aq hM Q3 rfl,?_⟩;cbv;refine ah h fun l9 ql9 h=>?_;refine hJ _ l6 x8 l9 _ _ _ ql9 ⟨fun l=>F9 rfl (jX.ok l),?_,⟨⟨rfl,jX.t⟩,jX.u⟩⟩ ?_
     ·cbv;(all_goals(repeat' apply And.intro));all_goals first|trivial|rfl|exact(aK hM)
     ·cbv;refine hR1 (l9,_) _ h ?_;refine⟨rfl,rfl,rfl,rfl,rfl,?_,⟨ao _,ao _,ao _,⟨rfl,rfl⟩,trivial⟩,⟨⟨rfl,jX.t⟩,jX.u⟩,F9 rfl (jX.ok l9),rfl⟩;cbv;(all_goals(repeat' apply And.intro));all_goals first|trivial|rfl|exact(aK hM)
    ·cbv;obtain rfl:=o5 h;have e:=jX.ok l6
     cbv at e;refine⟨by rw[e],?_⟩;cbv;exact hK
  ·cbv;obtain rfl:=o5 h;have e:=jX.ok l3
   cbv at e;refine⟨by rw[e],?_⟩;cbv;exact hK
theorem WV{I:Pr}(hI:I=ak){M:Md}(hM:M= .ak){n r:Nat}{br:ag}{m:Nat}{o6:List AV}{g:Nat→Option Ob}{nx:Nat}{call:qH}{tr:Nat→Tree}{dd:Nat→List Nat}{op:List Nat}:
  ∀(k base:Nat),QB I M n r br m o6 g nx k (o7 {I:=I,L:=L,ρ:=r,sh:=[],tree:=tr,call:=call,op:=op,dead:=dd,cl:=im,keys:=mv,eqs:=uk} (wQ 111 (Nz r) fun _=>none) k base).inl
 |0,_=>fun yl l x l' t up K h _ _=>by cases h
 |k+1,base=>fun yl l x l' t up K h jX hK=>by
  have ih:=WV hI hM (n:=n) (r:=r) (br:=br) (m:=m) (o6:=o6) (g:=g) (nx:=nx) (call:=call) (tr:=tr) (dd:=dd) (op:=op) k (base*256+111)
  have hb:=adk hI hM (call:=call) ((base*256+111)*1000) _ (o7 {I:=I,L:=L,ρ:=r,sh:=[],tree:=tr,call:=call,op:=op,dead:=dd,cl:=im,keys:=mv,eqs:=uk} (wQ 111 (Nz r) fun _=>none) k (base*256+111)).CI yl ih h jX hK
  cases k with
  |zero=>exact hb
  |succ k=>exact hb
theorem amQ{C0:ey}{T:Nat→Option FI}{n:Nat}{c:Code}{s:St}{rs:List ResultVar}{R:AV→(Nat→Option Ob)→Nat→Prop}
  (h: ∀(J JR:Hand),J=(o7 C0 T n 0).inl→rS {C0 with base:=0,uU:=xb T,inl:=J,CI:=JR,yl:=fun _ _ _ _=>False} c s (post {C0 with base:=0,uU:=xb T,inl:=J,CI:=JR,yl:=fun _ _ _ _=>False} rs R)):
  rS (o7 C0 T n 0) c s (post (o7 C0 T n 0) rs R):=by
 have:=h _ (o7 C0 T n 0).CI rfl
 cases n<;>exact this
theorem amW{I:Pr}(hI:I=ak){M:Md}(hM:M= .ak){n r:Nat}{br:ag}{m:Nat}{o6:List AV}{g:Nat→Option Ob}{nx:Nat}{call:qH}{tr:Nat→Tree}{dd:Nat→List Nat}{op:List Nat}{J:Hand}
  (hJ:J=(o7 {I:=I,L:=L,ρ:=r,sh:=[],tree:=tr,call:=call,op:=op,dead:=dd,cl:=im,keys:=mv,eqs:=uk} (wQ 111 (Nz r) fun _=>none) n 0).inl):QB I M n r br m o6 g nx n J:=hJ▸WV hI hM n 0
end Ab
namespace Ab
open Go Go.Proofs.Tryz
set_option maxHeartbeats 100000000
set_option maxRecDepth 100000
variable{I:Pr}(hI:I=ak){M:Md}(hM:M= .ak){n nx r s p q u rl:Nat}{g:Nat→Option Ob}
 include hI hM
theorem dI{a0:aD}{v:Bool}(h:gH I M n a0=some v):
  cj 89 [(.agg (bu M r a0))] (vb v) g nx:=have _:=hM;by
 refine cK func89 c89 r afl ajC [] 11 ntmps89 [.tmp 2] hI fun call hc=>?_;cbv;cases h;exact fin
 include hI hM
theorem Eo{a0:ag}{v:List Bool}(h:oe I M n a0=some v):
  cj 59 [(.agg (aB M r a0))] (.sl r (M.map cS v)) g nx:=by
 refine Aq func59 c59 r afJ aj0 [3,4] 36 ntmps59 [.tmp 2] hI (bF.cons (X0 r) (vK PP im)) n fun call hc=>?_;refine amQ (fun J JR hJ=>?_);cbv;refine letE h fun n1 dw h=>⟨_,an hI hM dw,?_⟩;cbv;refine ah h fun l2 Ea h=>⟨_,_,eh (enc:=cS) hI hM Ea (by decide) rfl,?_⟩;cbv;refine⟨_,an hI hM dw,?_⟩;cbv;refine lp h (fun(l3,z4)=>[(17,(vi z4))]) (fun(l3,z4)=>[(12,.arr 1 (M.map cS l3))]) fun kS m1 aZ st h=>?_;obtain⟨l3,z4⟩:=st;dsimp only[kA]at h;cbv;refine si h (fun h=>?_) fun h=>?_
 ·as_aux_lemma=>
   cbv;refine ah h fun x5 sa h=>⟨_,aq hM sa rfl,?_⟩;cbv;refine ah h fun y6 yW h=>⟨_,_,_,us hc (dI hI hM yW),?_⟩;cbv;refine si h (fun h=>?_) fun h=>?_
   ·cbv;refine letE h fun n7 qn7 h=>⟨_,an hI hM qn7,?_⟩;cbv;refine lp h (fun(l8,z9)=>[(26,(vi z9))]) (fun(l8,z9)=>[(12,.arr 1 (M.map cS l8))]) fun Dc m2 dm st h=>?_;obtain⟨l8,z9⟩:=st;dsimp only[ky]at h;cbv;refine si h (fun h=>?_) fun h=>?_
    ·cbv;refine ah h fun vE xB h=>⟨_,aq hM xB rfl,?_⟩;cbv;refine ah h fun AD Kj h=>?_;refine amW hI hM hJ _ _ _ _ _ _ _ Kj ⟨fun l=>rfl,?_,trivial⟩ ?_
     ·cbv;(all_goals(repeat' apply And.intro));all_goals first|trivial|rfl|exact(aK hM)
     cbv;exact b8 (dm _ _ h)
    cbv;exact b8 (aZ _ _ h)
   cbv;exact b8 (aZ _ _ h)
 cbv;refine ah h fun u16 J9 h=>?_;obtain rfl:=o5 h;cbv;all_goals(repeat' apply And.intro)
 all_goals first|trivial|rfl|exact(aK hM)|exact dG hM J9
 include hI hM
theorem dU{a0:List Int}{v:Int}(h:iW I M n a0=some v):
  cj 117 [(.sl r (M.map ax a0))] (vi v) g nx:=by
 refine cK func117 avS r aab acT [] 17 ntmps117 [.tmp 2] hI fun call hc=>?_;cbv;refine letE h fun n1 dw h=>⟨_,an hI hM dw,?_⟩;cbv;refine lp h (fun(z2,z3)=>[(3,(vi z2)),(8,(vi z3))]) (fun _=>[]) fun kS m1 aZ st h=>?_;obtain⟨z2,z3⟩:=st;dsimp only[kC]at h;cbv;refine si h (fun h=>?_) fun h=>by cbv;cases h;exact fin
 cbv;refine ah h fun x4 ur h=>⟨_,aq hM ur rfl,?_⟩;cbv;exact b8 (aZ _ _ h)
 include hI hM
theorem yb{a0:aj}{a1:ByteArray}{v:Bool}(h:ot I M n a0 a1=some v):
  cj 118 [(.agg (aA M r a0)),(.aX r [(vs a1)] 0)] (vb v) g nx:=have _:=hM;by
 refine cK func118 avR r aaa acS [] 8 ntmps118 [.tmp 3] hI fun call hc=>?_;cbv;cases h;exact fin
 include hI hM
theorem qM{a0:List aj}{bn:ByteArray}{v:Int}(h:fX I M n a0 bn=some v):
  cj 92 [(.sl r (M.map (aA M r) a0)),(.fn (.func 118) [(.aX r [(vs bn)] 0)])] (vi v) g nx:=by
 refine cK func92 c92 r JG K3 [] 19 ntmps92 [.tmp 4] hI fun call hc=>?_;cbv;refine letE h fun n1 dw h=>⟨_,an hI hM dw,?_⟩;cbv;refine lp h (fun z2=>[(8,(vi z2))]) (fun z2=>[]) fun kS m1 aZ z2 h=>?_;dsimp only[jT]at h;cbv;refine si h (fun h=>?_) fun h=>by cbv;cases h;exact fin
 cbv;refine ah h fun x3 lG h=>⟨_,aq hM lG rfl,?_⟩;cbv;refine ah h fun y4 nI h=>⟨_,_,_,us hc (yb hI hM nI),?_⟩;cbv;refine si h (fun h=>by cbv;cases h;exact fin) fun h=>?_;cbv;exact b8 (aZ _ _ h)
 include hI hM
theorem mK{a0:ai}{a1:ByteArray}{v:aj}(h:ld I M n a0 a1=some v):
  cj 72 [(.agg (bd M r a0)),(vs a1)] (.agg (aA M r v)) g nx:=by
 refine cK func72 c72 r afy ajP [] 15 ntmps72 [.cell 4 57] hI fun call hc=>?_;cbv;refine ah h fun y1 c4 h=>⟨_,_,_,us hc (qM hI hM c4),?_⟩;cbv;refine ah h fun x2 Q4 h=>⟨_,aq hM Q4 rfl,?_⟩;cbv;cbv;cases h;exact fin
 include hI hM
theorem BE{a0:aD}{v:Bool}(h:sd I M n a0=some v):
  cj 120 [(.agg (bu M r a0))] (vb v) g nx:=by
 refine cK func120 avP r Z8 acQ [] 6 ntmps120 [.tmp 2] hI fun call hc=>?_;cbv;refine ah h fun y1 c4 h=>⟨_,_,_,us hc (dI hI hM c4),?_⟩;cbv;cbv;cases h;exact fin
 include hI hM
theorem vp{a0:aD}{v:Bool}(h:gG I M n a0=some v):
  cj 152 [(.agg (bu M r a0)),(.aX r [(.fn (.func 120) [])] 0)] (vb v) g nx:=by
 refine cK func152 avp r ZE ack [] 8 ntmps152 [.tmp 3] hI fun call hc=>?_;cbv;refine ah h fun y1 c4 h=>⟨_,_,_,us hc (BE hI hM c4),?_⟩;cbv;cbv;cases h;exact fin
 include hI hM
theorem sX{a0:List aD}{v:Int}(h:iQ I M n a0=some v):
  cj 94 [(.sl r (M.map (bu M r) a0)),(.fn (.func 152) [(.aX r [(.fn (.func 120) [])] 0)])] (vi v) g nx:=by
 refine cK func94 c94 r UR Yf [] 19 ntmps94 [.tmp 4] hI fun call hc=>?_;cbv;refine letE h fun n1 dw h=>⟨_,an hI hM dw,?_⟩;cbv;refine lp h (fun z2=>[(8,(vi z2))]) (fun z2=>[]) fun kS m1 aZ z2 h=>?_;dsimp only[lW]at h;cbv;refine si h (fun h=>?_) fun h=>by cbv;cases h;exact fin
 cbv;refine ah h fun x3 lG h=>⟨_,aq hM lG rfl,?_⟩;cbv;refine ah h fun y4 nI h=>⟨_,_,_,us hc (vp hI hM nI),?_⟩;cbv;refine si h (fun h=>by cbv;cases h;exact fin) fun h=>?_;cbv;exact b8 (aZ _ _ h)
 include hI hM
theorem qR{a0:List aD}{v:Bool}(h:fZ I M n a0=some v):
  cj 37 [(.sl r (M.map (bu M r) a0)),(.fn (.func 152) [(.aX r [(.fn (.func 120) [])] 0)])] (vb v) g nx:=by
 refine cK func37 c37 r UY Yl [] 9 ntmps37 [.tmp 4] hI fun call hc=>?_;cbv;refine ah h fun y1 c4 h=>⟨_,_,_,us hc (sX hI hM c4),?_⟩;cbv;cbv;cases h;exact fin
 include hI hM
theorem xg{a0:List aD}{v:Bool}(h:mR I M n a0=some v):
  cj 119 [(.sl r (M.map (bu M r) a0)),(.fn (.func 120) [])] (vb v) g nx:=by
 refine cK func119 avQ r Z9 acR [] 9 ntmps119 [.tmp 4] hI fun call hc=>?_;cbv;refine ah h fun y1 c4 h=>⟨_,_,_,us hc (qR hI hM c4),?_⟩;cbv;cbv;cases h;exact fin
 include hI hM
theorem qT{a0:ag}{v:Bool}(h:oq I M n a0=some v):
  cj 74 [(.agg (aB M r a0))] (vb v) g nx:=by
 refine cK func74 c74 r afw ajN [] 6 ntmps74 [.tmp 2] hI fun call hc=>?_;cbv;refine ah h fun y1 c4 h=>⟨_,_,_,us hc (xg hI hM c4),?_⟩;cbv;cbv;cases h;exact fin
 include hI hM
theorem qB{a0:aj}{v:Bool}(h:jW I M n a0=some v):
  cj 67 [(.agg (aA M r a0))] (vb v) g nx:=by
 refine cK func67 c67 r afB ajS [] 22 ntmps67 [.tmp 2] hI fun call hc=>?_;cbv;refine letE h fun n1 dw h=>⟨_,an hI hM dw,?_⟩;cbv;refine ah h fun x2 Q4 h=>⟨_,fun hp=>aq hM (aE Q4 hp.1) rfl,?_⟩;cbv;refine ah h fun x3 lG h=>⟨_,fun hp=>aq hM (aE lG hp.1) rfl,?_⟩;cbv;refine ah h fun y4 nI h=>⟨_,fun hp=>us hc (qT hI hM (aE nI hp.1)),?_⟩;cbv;cbv;cases h;exact fin
 include hI hM
theorem eL{Ay:ByteArray}{Ax:Int}{Aw:Int}{pM:List Int}{a1:List Int}{v:List Int}(h:gF I M n Ay Ax Aw pM a1=some v):
  cj 55 [(.aX rl [(vs Ay),(vi Ax),(.v gQ),(vi Aw),(.sl r (M.map ax pM)),(.v .nilFunc)] 0),(.sl p (M.map ax a1))] (.sl r (M.map ax v)) g nx:=by
 refine cK func55 c55 r JH K4 [] 26 ntmps55 [.tmp 4] hI fun call hc=>?_;cbv;refine letE h fun n1 dw h=>⟨_,an hI hM dw,?_⟩;cbv;refine lp h (fun(z2,l3)=>[(5,(.gs r (.l 23) (M.map ax l3))),(10,(vi z2))]) (fun _=>[]) fun kS m1 aZ st h=>?_;obtain⟨z2,l3⟩:=st;dsimp only[od]at h;cbv;refine si h (fun h=>?_) fun h=>by cbv;cases h;exact fin
 cbv;refine ah h fun x4 ur h=>⟨_,aq hM ur rfl,?_⟩;cbv;refine ah h fun x5 sa h=>⟨_,aq hM sa rfl,?_⟩;cbv;refine⟨_,cq (enc:=ax) (x:=x5) hM (ao _) rfl,?_⟩;cbv;refine ah h fun l6 SY h=>⟨_,ay (enc:=ax) hI hM SY (fun _=>rfl) rfl (fun _=>rfl),?_⟩;cbv;exact b8 (aZ _ _ h)
 include hI hM
 include hI hM
theorem ny{Ay:ByteArray}{Ax:Int}{Hf:List aD}{Aw:Int}{pM:List Int}{Av:ai}{a1:List Int}{v:List Int}(h:kx I M n Ay Ax Hf Aw pM Av a1=some v):
  cj 55 [(.aX rl [(vs Ay),(vi Ax),(.sl r (M.map (bu M r) Hf)),(vi Aw),(.sl r (M.map ax pM)),(.fn (.func 71) [(.aX q (bd M u Av) 0)])] 0),(.sl p (M.map ax a1))] (.sl r (M.map ax v)) g nx:=by
 refine cK func55 c55 r JH K4 [] 26 ntmps55 [.tmp 4] hI fun call hc=>?_;cbv;refine letE h fun n1 dw h=>⟨_,an hI hM dw,?_⟩;cbv;refine lp h (fun(z2,l3)=>[(5,(.gs r (.l 23) (M.map ax l3))),(10,(vi z2))]) (fun _=>[]) fun kS m1 aZ st h=>?_;obtain⟨z2,l3⟩:=st;dsimp only[oc]at h;cbv;refine si h (fun h=>?_) fun h=>by cbv;cases h;exact fin
 cbv;refine ah h fun x4 ur h=>⟨_,aq hM ur rfl,?_⟩;cbv;refine ah h fun x5 sa h=>⟨_,aq hM sa rfl,?_⟩;cbv;refine⟨_,cq (enc:=ax) (x:=x5) hM (ao _) rfl,?_⟩;cbv;refine ah h fun l6 SY h=>⟨_,ay (enc:=ax) hI hM SY (fun _=>rfl) rfl (fun _=>rfl),?_⟩;cbv;exact b8 (aZ _ _ h)
 include hI hM
 include hI hM
theorem mA{Ay:ByteArray}{Ax:Int}{Hf:List aD}{Aw:Int}{pM:List Int}{Av:ai}{a1:List Int}{v:List Int}(h:jP I M n Ay Ax Hf Aw pM Av a1=some v):
  cj 55 [(.aX rl [(vs Ay),(vi Ax),(.sl r (M.map (bu M r) Hf)),(vi Aw),(.sl r (M.map ax pM)),(.fn (.func 73) [(.aX q (bd M u Av) 0)])] 0),(.sl p (M.map ax a1))] (.sl r (M.map ax v)) g nx:=by
 refine cK func55 c55 r JH K4 [] 26 ntmps55 [.tmp 4] hI fun call hc=>?_;cbv;refine letE h fun n1 dw h=>⟨_,an hI hM dw,?_⟩;cbv;refine lp h (fun(z2,l3)=>[(5,(.gs r (.l 23) (M.map ax l3))),(10,(vi z2))]) (fun _=>[]) fun kS m1 aZ st h=>?_;obtain⟨z2,l3⟩:=st;dsimp only[nk]at h;cbv;refine si h (fun h=>?_) fun h=>by cbv;cases h;exact fin
 cbv;refine ah h fun x4 ur h=>⟨_,aq hM ur rfl,?_⟩;cbv;refine ah h fun x5 sa h=>⟨_,aq hM sa rfl,?_⟩;cbv;refine⟨_,cq (enc:=ax) (x:=x5) hM (ao _) rfl,?_⟩;cbv;refine ah h fun l6 SY h=>⟨_,ay (enc:=ax) hI hM SY (fun _=>rfl) rfl (fun _=>rfl),?_⟩;cbv;exact b8 (aZ _ _ h)
 include hI hM
theorem GR{a0:ai}{a1:Int}{a2:Int}{v:ag×Int}(h:tM I M n a0 a1 a2=some v):
  cj 109 [(.agg (bd M r a0)),(vi a1),(vi a2)] (.gY [(.agg (aB M r v.1)),(vi v.2)]) g nx:=by
 refine cK func109 avW r aai ac0 [] 49 ntmps109 [.cell 6 61,.tmp 7] hI fun call hc=>?_;cbv;refine ah h fun y1 c4 h=>⟨_,_,_,us hc (db hI hM c4),?_⟩;cbv;refine si h (fun h=>by cbv;cases h;exact fin) fun h=>?_;cbv;refine letE h fun n2 pf h=>⟨_,an hI hM pf,?_⟩;cbv;refine ah h fun x3 lG h=>⟨_,fun hp=>aq hM (aE lG hp.1) rfl,?_⟩;cbv;refine letE h fun n4 Pa h=>⟨_,an hI hM Pa,?_⟩;cbv;refine si h (fun h=>by cbv;cases h;exact fin) fun h=>?_;cbv;refine ah h fun x5 sa h=>⟨_,aq hM sa rfl,?_⟩;cbv;refine ah h fun x6 ER h=>⟨_,aq hM ER rfl,?_⟩;cbv;cbv;cases h;exact fin
 include hI hM
theorem K1{a0:ai}{a1:Int}{a2:Int}{v:(List Bool)×Int}(h:yQ I M n a0 a1 a2=some v):
  cj 52 [(.agg (bd M r a0)),(vi a1),(vi a2)] (.gY [(.sl r (M.map cS v.1)),(vi v.2)]) g nx:=by
 refine Aq func52 c52 r afP aj6 [] 71 ntmps52 [.tmp 6,.tmp 7] hI (bF.cons (XX r) (bF.cons (X1 r) (vK PP im))) 8 fun call hc=>?_;cbv;refine ah h fun y1 c4 h=>⟨_,_,_,us hc (GR hI hM c4),?_⟩;cbv;refine si h (fun h=>by cbv;cases h;exact fin) fun h=>?_;cbv;refine letE h fun n2 pf h=>⟨_,an hI hM pf,?_⟩;cbv;refine ah h fun l3 Q6 h=>⟨_,_,eh (enc:=cS) hI hM Q6 (by decide) rfl,?_⟩;cbv;refine ah h fun k4 qk4 h=>⟨_,cE hI hM qk4,?_⟩;cbv;refine ah h fun x5 sa h=>?_;refine ah h fun l6 SY h=>⟨_,dV hI hM sa SY (by decide) rfl rfl,?_⟩;cbv;intro l;cbv;refine⟨_,an hI hM pf,?_⟩;cbv;refine lp h (fun(l7,z8)=>[(3,(vi z8))]) (fun(l7,z8)=>[(28,.arr 1 (M.map cS l7))]) fun kS m1 aZ st h=>?_;obtain⟨l7,z8⟩:=st;dsimp only[qD]at h;cbv;refine si h (fun h=>?_) fun h=>?_
 ·as_aux_lemma=>
   cbv;refine ah h fun x9 SN h=>⟨_,aq hM SN rfl,?_⟩;cbv;(try(refine⟨⟨rfl,rfl,rfl⟩,?_⟩;cbv));(try(refine⟨rfl,?_⟩;cbv));refine ah h fun Xh Ps h=>?_;refine ah h fun Fg xA h=>?_;refine ah h fun ia Wm h=>?_;apply Exists.intro;refine⟨?_,_,rfl,?_⟩
   ·cbv;(repeat' first|exact .inl rfl|exact trivial|(refine⟨_,cE hI hM Ps,?_⟩;cbv)|(refine⟨_,_,rfl,bj hM xA,rfl,?_⟩;cbv)|(refine⟨_,dV hI hM xA Wm (by decide) rfl rfl,?_⟩;cbv)|apply And.intro);all_goals exact bw
   cbv;refine⟨_,cE hI hM Ps,?_⟩;cbv;refine ah h fun Dk zR h=>⟨_,_,rfl,bj hM zR,rfl,?_⟩;cbv;refine si h (fun h=>?_) fun h=>?_
   ·cbv;refine letE h fun MP Pd h=>⟨_,an hI hM Pd,?_⟩;cbv;refine lp h (fun(yX,lD)=>[(62,(vi lD))]) (fun(yX,lD)=>[(28,.arr 1 (M.map cS yX))]) fun Dc m2 dm st h=>?_;obtain⟨yX,lD⟩:=st;dsimp only[nB]at h;cbv;refine si h (fun h=>?_) fun h=>?_
    ·cbv;refine ah h fun sQ Co h=>⟨_,aq hM Co rfl,?_⟩;cbv;refine ah h fun Xg Eb h=>⟨_,cE hI hM Eb,?_⟩;cbv;refine ah h fun LL AW h=>?_;refine ah h fun PO Pn h=>⟨_,dV hI hM AW Pn (by decide) rfl rfl,?_⟩;cbv;exact b8 (dm _ _ h)
    cbv;(try(refine⟨rfl,?_⟩;cbv));refine nR hI ?_;cbv;exact b8 (aZ _ _ h)
   cbv;(try(refine⟨rfl,?_⟩;cbv));refine nR hI ?_;cbv;exact b8 (aZ _ _ h)
 cbv;try(refine⟨rfl,?_⟩;cbv)
 refine ah h fun UO Cp h=>?_;obtain rfl:=o5 h;cbv;all_goals(repeat' apply And.intro)
 all_goals first|trivial|rfl|exact(aK hM)|exact dG hM Cp
 include hI hM
theorem yc{a0:ai}{v:ai×Int}(h:qb I M n a0=some v):
  cj 10 [(.agg (bd M p a0))] (.gY [(.agg (bd M r v.1)),(vi v.2)]) g nx:=by
 refine Aq func10 c10 r agh akx [5] 16 ntmps10 [.cell 2 24,.tmp 3] hI (bF.cons (sB r) (bF.cons (wo r) (bF.cons (wq r) (bF.cons (ab1 r) (bF.cons (ab2 r) (bF.cons (yO r) (vK PP im))))))) 8 fun call hc=>?_;cbv;refine ah h fun y1 c4 h=>⟨_,_,_,us hc (db hI hM c4),?_⟩;cbv;refine si h (fun h=>by cbv;cases h;exact fin) fun h=>?_;cbv;refine letE h fun n2 pf h=>⟨_,an hI hM pf,?_⟩;cbv;refine kU n (fun kS aZ=>?_);cbv;refine si h (fun h=>?_) fun h=>?_
 ·as_aux_lemma=>
   cbv;refine ah h fun x3 lG h=>⟨_,aq hM lG rfl,?_⟩;cbv;refine⟨_,RV (by rfl),?_⟩;cbv;refine ah h fun l4 NZ h=>⟨sg hI NZ,_,_,zT (enc:=(aA M r)) hI hM NZ (by have e0:=aK (enc:=(aB M r)) hM;simp only[aA,vi,vs,vb,cv,eJ,e0]),?_⟩;cbv;refine aZ _ (lpD h [50009] (fun(l5,z6)=>[(19,(vi z6)),(20,.any)]) (fun(l5,z6)=>[(50007,.box [(.jB (.s 50031) (M.ln l5))]),(50031,.ow (.sl 3) none (M.map (aA M r) l5))]) fun Dc m2 dm st h=>?_);obtain⟨l5,z6⟩:=st;dsimp only[jI]at h;cbv;refine si h (fun h=>?_) fun h=>?_
   ·cbv;refine ah h fun x7 zr h=>⟨_,aq hM zr rfl,?_⟩;cbv;refine⟨_,RV (by rfl),?_⟩;cbv;refine ah h fun l8 SW h=>?_
    (refine⟨_,_,F5 (enc:=(aA M r)) hI hM SW ?_,?_⟩;next=>have e0:=aK (enc:=(aB M r)) hM;simp only[aA,vi,vs,vb,cv,eJ,e0])
    cbv;exact b8 (dm _ _ h)
   cbv;intro l;cbv;refine letE h fun xa zS h=>⟨_,an hI hM zS,?_⟩;cbv;refine lp h (fun(ia,yY,eU)=>[(10,(vi eU))]) (fun(ia,yY,eU)=>[(5,.box [(.sl p (M.map cS ia))]),(50031,.ow (.sl 3) none (M.map (aA M r) yY))]) fun QA m3 kI st h=>?_;obtain⟨ia,yY,eU⟩:=st;dsimp only[jH]at h;cbv;refine si h (fun h=>?_) fun h=>?_
   ·as_aux_lemma=>
     cbv;refine ah h fun AB D9 h=>⟨_,aq hM D9 rfl,?_⟩;cbv;refine letE h fun Gd FX h=>⟨_,an hI hM FX,?_⟩;cbv;refine lp h (fun(ua,rJ,fh)=>[(18,(vi fh))]) (fun(ua,rJ,fh)=>[(5,.box [(.sl p (M.map cS ua))]),(50031,.ow (.sl 3) none (M.map (aA M r) rJ))]) fun YG m4 sW st h=>?_;obtain⟨ua,rJ,fh⟩:=st;dsimp only[jG]at h;cbv;refine si h (fun h=>?_) fun h=>?_
     ·as_aux_lemma=>
       cbv;refine ah h fun eT FR h=>⟨_,aq hM FR rfl,?_⟩;cbv;(try(refine⟨⟨rfl,rfl,rfl⟩,?_⟩;cbv));refine letE h fun xP Ki h=>⟨_,⟨rfl,eR (enc:=ax) hI hM Ki rfl⟩,?_⟩;cbv;refine ah h fun Zs AX h=>?_
       (first|refine⟨_,⟨aQ hI hM AX,tP (enc:=ax) (l:=[eU,fh]) hI hM rfl⟩,?_⟩|refine⟨_,⟨rfl,aQ hI hM AX,rfl,rfl,tP (enc:=ax) (l:=[eU,fh]) hI hM rfl⟩,?_⟩)
       cbv;(try(refine⟨rfl,?_⟩;cbv));refine ah h fun Sh sT h=>?_
       (first|refine⟨⟨rfl,aQ hI hM sT,rfl⟩,?_⟩|refine⟨⟨aQ hI hM sT,trivial⟩,?_⟩|refine⟨aQ hI hM sT,?_⟩)
       cbv;(try(refine⟨⟨by decide,by decide⟩,?_⟩;cbv));refine ah h fun k24 Pq h=>?_
       (first|refine⟨_,⟨rfl,rfl,aL hI Pq⟩,?_⟩|refine⟨_,aL hI Pq,?_⟩)
       cbv;refine ah h fun BY O2 h=>⟨_,_,rfl,bj hM O2,rfl,?_⟩;cbv;refine ah h fun k26 amH h=>?_
       (first|refine⟨_,⟨rfl,rfl,aL hI amH⟩,?_⟩|refine⟨_,aL hI amH,?_⟩)
       cbv;refine ah h fun tS agS h=>⟨_,_,rfl,bj hM agS,rfl,?_⟩;cbv;refine ah h fun YU aaL h=>⟨_,_,_,us hc (K1 hI hM aaL),?_⟩;cbv;apply Exists.intro;refine⟨?_,_,rfl,?_⟩
       ·cbv;(repeat' first|exact .inl rfl|exact trivial|apply And.intro);all_goals exact bw
       cbv;refine letE h fun n29 ar6 h=>⟨_,an hI hM ar6,?_⟩;cbv;refine lp h (fun(Hp,HH,E9)=>[(56,(vi E9))]) (fun(Hp,HH,E9)=>[(12851015,.box [(vs eT.head),(vi eT.aM),(.gs r (.c 12851015 2) (M.map (bu M r) Hp)),(vi 0),(.gs r (.c 12851015 4) (M.map ax HH)),(.v .nilFunc)])]) fun YF m5 sV st h=>?_;obtain⟨Hp,HH,E9⟩:=st;dsimp only[jF]at h;cbv;refine si h (fun h=>?_) fun h=>?_
       ·as_aux_lemma=>
         cbv;refine ah h fun H9 arO h=>⟨_,aq hM arO rfl,?_⟩;cbv;refine lC h fun j34 M5 hj h=>?_;dsimp only at h;refine bk none [(13,.any),(14,.any)] [(12851015,.box [(vs eT.head),(vi eT.aM),(.gs r (.c 12851015 2) (M.map (bu M r) j34)),(vi 0),(.gs r (.c 12851015 4) (M.map ax M5)),(.v .nilFunc)])] g nx ?_ ?_
         ·replace h:=hj;cbv;refine⟨?_,?_⟩
          ·refine⟨?_,trivial⟩;refine ah h fun Ju FP h=>⟨_,aq hM FP rfl,?_⟩;cbv;refine si h (fun h=>?_) fun h=>?_
           ·cbv;refine⟨?_,trivial⟩;refine⟨_,cq (enc:=ax) (x:=0) hM (ao _) rfl,?_⟩;cbv;refine⟨?_,trivial⟩;refine ah h fun l37 ahO h=>⟨_,ay (enc:=ax) hI hM ahO (fun _=>rfl) rfl (fun _=>rfl),?_⟩;cbv;refine⟨?_,trivial⟩;cases h;first|exact Or.inl rfl|exact bw
           cbv;refine lC h fun wh Eg hj h=>?_;dsimp only at h;refine bk none [(7,(vi wh)),(0,.any),(6,.any)] [(12851015,.box [(vs eT.head),(vi eT.aM),(.gs r (.c 12851015 2) (M.map (bu M r) Eg)),(vi 0),(.gs r (.c 12851015 4) (M.map ax HH)),(.v .nilFunc)])] g nx ?_ ?_
           ·replace h:=hj;cbv;refine⟨?_,trivial⟩;refine ah h fun AH Cn h=>⟨fun _=>rfl,(.sl r (M.map ax AH)),g,nx,fun ρ=>by cbv;exact us hc (aY hI hM Cn),?_⟩;cbv;refine⟨?_,trivial⟩;refine letE h fun Y4 VO h=>⟨_,an hI hM VO,?_⟩;cbv;refine ah h fun Ee Pl h=>⟨_,_,eh (enc:=ax) hI hM Pl (by decide) rfl,?_⟩;cbv;refine letE h fun KC Pk h=>?_;refine letE h fun n44 aho h=>⟨_,_,iK (enc:=ax) hI hM Pk aho rfl (fun _=>rfl) (fun _=>rfl),?_⟩;cbv;refine⟨_,an hI hM VO,?_⟩;cbv;refine si h (fun h=>?_) fun h=>?_
            ·cbv;refine ah h fun M0 Pj h=>?_;apply Exists.intro;refine⟨?_,_,rfl,?_⟩
             ·cbv;(repeat' first|exact .inl rfl|exact trivial|(refine⟨_,cq (enc:=(bu M r)) (x:=(⟨H9.kind,H9.name,H9.num,[]⟩:aD)) hM ⟨rfl,rfl,rfl,(aK hM),trivial⟩ rfl,?_⟩;cbv)|(refine⟨_,ay (enc:=(bu M r)) hI hM Pj (fun _=>rfl) rfl (fun _=>rfl),?_⟩;cbv)|apply And.intro);all_goals exact bw
             cbv;refine letE h fun Y3 O9 h=>⟨_,an hI hM O9,?_⟩;cbv;cases h;first|exact Or.inl rfl|exact bw
            cbv;refine ah h fun u47 ag3 h=>?_;refine ah h fun PM Wc h=>?_;apply Exists.intro;refine⟨?_,_,rfl,?_⟩
            ·cbv;(repeat' first|exact .inl rfl|exact trivial|(refine⟨_,cq (enc:=(bu M r)) (x:=(⟨H9.kind,H9.name,H9.num,KC⟩:aD)) hM ⟨rfl,rfl,rfl,(dG hM ag3),trivial⟩ rfl,?_⟩;cbv)|(refine⟨_,ay (enc:=(bu M r)) hI hM Wc (fun _=>rfl) rfl (fun _=>rfl),?_⟩;cbv)|apply And.intro);all_goals exact bw
            cbv;refine letE h fun S7 O8 h=>⟨_,an hI hM O8,?_⟩;cbv;cases h;first|exact Or.inl rfl|exact bw
           clear hj;cbv;refine⟨?_,trivial⟩;refine⟨_,cq (enc:=ax) (x:=wh) hM (ao _) rfl,?_⟩;cbv;refine⟨?_,trivial⟩;refine ah h fun Ro SZ h=>⟨_,ay (enc:=ax) hI hM SZ (fun _=>rfl) rfl (fun _=>rfl),?_⟩;cbv;refine⟨?_,trivial⟩;cases h;first|exact Or.inl rfl|exact bw
          refine⟨?_,trivial⟩;refine ah h fun Ju FP h=>⟨_,aq hM FP rfl,?_⟩;cbv;refine si h (fun h=>?_) fun h=>?_
          ·cbv;refine⟨?_,trivial⟩;refine⟨_,cq (enc:=ax) (x:=0) hM (ao _) rfl,?_⟩;cbv;refine⟨?_,trivial⟩;refine ah h fun l37 ahO h=>⟨_,ay (enc:=ax) hI hM ahO (fun _=>rfl) rfl (fun _=>rfl),?_⟩;cbv;refine⟨?_,trivial⟩;cases h;first|exact Or.inl rfl|exact bw
          cbv;refine lC h fun wh Eg hj h=>?_;dsimp only at h;refine bk none [(7,(vi wh)),(0,.any),(6,.any)] [(12851015,.box [(vs eT.head),(vi eT.aM),(.gs r (.c 12851015 2) (M.map (bu M r) Eg)),(vi 0),(.gs r (.c 12851015 4) (M.map ax HH)),(.v .nilFunc)])] g nx ?_ ?_
          ·replace h:=hj;cbv;refine⟨?_,trivial⟩;refine ah h fun AH Cn h=>⟨fun _=>rfl,(.sl r (M.map ax AH)),g,nx,fun ρ=>by cbv;exact us hc (aY hI hM Cn),?_⟩;cbv;refine⟨?_,trivial⟩;refine letE h fun Y4 VO h=>⟨_,an hI hM VO,?_⟩;cbv;refine ah h fun Ee Pl h=>⟨_,_,eh (enc:=ax) hI hM Pl (by decide) rfl,?_⟩;cbv;refine letE h fun KC Pk h=>?_;refine letE h fun n44 aho h=>⟨_,_,iK (enc:=ax) hI hM Pk aho rfl (fun _=>rfl) (fun _=>rfl),?_⟩;cbv;refine⟨_,an hI hM VO,?_⟩;cbv;refine si h (fun h=>?_) fun h=>?_
           ·cbv;refine ah h fun M0 Pj h=>?_;apply Exists.intro;refine⟨?_,_,rfl,?_⟩
            ·cbv;(repeat' first|exact .inl rfl|exact trivial|(refine⟨_,cq (enc:=(bu M r)) (x:=(⟨H9.kind,H9.name,H9.num,[]⟩:aD)) hM ⟨rfl,rfl,rfl,(aK hM),trivial⟩ rfl,?_⟩;cbv)|(refine⟨_,ay (enc:=(bu M r)) hI hM Pj (fun _=>rfl) rfl (fun _=>rfl),?_⟩;cbv)|apply And.intro);all_goals exact bw
            cbv;refine letE h fun Y3 O9 h=>⟨_,an hI hM O9,?_⟩;cbv;cases h;first|exact Or.inl rfl|exact bw
           cbv;refine ah h fun u47 ag3 h=>?_;refine ah h fun PM Wc h=>?_;apply Exists.intro;refine⟨?_,_,rfl,?_⟩
           ·cbv;(repeat' first|exact .inl rfl|exact trivial|(refine⟨_,cq (enc:=(bu M r)) (x:=(⟨H9.kind,H9.name,H9.num,KC⟩:aD)) hM ⟨rfl,rfl,rfl,(dG hM ag3),trivial⟩ rfl,?_⟩;cbv)|(refine⟨_,ay (enc:=(bu M r)) hI hM Wc (fun _=>rfl) rfl (fun _=>rfl),?_⟩;cbv)|apply And.intro);all_goals exact bw
           cbv;refine letE h fun S7 O8 h=>⟨_,an hI hM O8,?_⟩;cbv;cases h;first|exact Or.inl rfl|exact bw
          clear hj;cbv;refine⟨?_,trivial⟩;refine⟨_,cq (enc:=ax) (x:=wh) hM (ao _) rfl,?_⟩;cbv;refine⟨?_,trivial⟩;refine ah h fun Ro SZ h=>⟨_,ay (enc:=ax) hI hM SZ (fun _=>rfl) rfl (fun _=>rfl),?_⟩;cbv;refine⟨?_,trivial⟩;cases h;first|exact Or.inl rfl|exact bw
         clear hj;cbv;exact b8 (sV _ _ h)
       cbv;refine ah h fun x54 arJ h=>?_;apply Exists.intro;refine⟨?_,_,rfl,?_⟩
       ·cbv;(repeat' first|exact .inl rfl|exact trivial|(refine⟨_,aq hM arJ rfl,?_⟩;cbv)|apply And.intro);all_goals exact bw
       cbv;refine ah h fun k55 aaQ h=>?_
       (first|refine⟨_,⟨rfl,rfl,aL hI aaQ⟩,?_⟩|refine⟨_,aL hI aaQ,?_⟩)
       cbv;refine ah h fun x56 agN h=>⟨_,_,rfl,bj hM agN,rfl,?_⟩;cbv;refine ah h fun Xf Kl h=>⟨_,cE hI hM Kl,?_⟩;cbv;refine ah h fun YW J5 h=>?_;refine ah h fun MZ F0 h=>?_;refine ah h fun Rn HC h=>?_;apply Exists.intro;refine⟨?_,_,rfl,?_⟩
       ·cbv;(repeat' first|exact .inl rfl|exact trivial|(refine⟨_,_,_,⟨rfl,bj (enc:=(aA M r)) hM J5,rfl,rfl⟩,?_⟩;cbv)|(refine⟨_,cq (enc:=(aB M r)) (x:=(⟨eT.head,eT.aM,Hp,x54⟩:ag)) hM (ao _) rfl,?_⟩;cbv)|(refine⟨_,ay (enc:=(aB M r)) hI hM F0 (fun _=>rfl) rfl (fun _=>rfl),?_⟩;cbv)|((first|refine⟨_,tQ (enc:=(aA M r)) hI hM J5 HC (show 2<3 from by decide) rfl,?_⟩|refine⟨rfl,rfl,rfl,_,tQ (enc:=(aA M r)) hI hM J5 HC (show 2<3 from by decide) rfl,?_⟩);cbv)|apply And.intro);all_goals exact bw
       cbv;(try(refine⟨rfl,?_⟩;cbv));refine nR hI ?_;cbv;exact b8 (sW _ _ h)
     cbv;exact b8 (kI _ _ h)
   cbv;(try(refine⟨rfl,?_⟩;cbv));refine ah h fun u67 arW h=>?_;obtain rfl:=o5 h;cbv;(all_goals(repeat' apply And.intro));all_goals first|trivial|rfl|exact(aK hM)|exact(dG hM arW)
 cbv;cases h
 include hI hM
theorem wv{a1:ai}{v:ai}(h:lI I M n a1=some v):
  cj 78 [(.agg [(.fn (.func 10) [])]),(.agg (bd M r a1))] (.agg (bd M r v)) g nx:=by
 refine cK func78 c78 r Fs GY [] 15 ntmps78 [.cell 4 24] hI fun call hc=>?_;cbv;refine ah h fun y1 c4 h=>⟨_,_,_,us hc (yc hI hM c4 (r:=r)),?_⟩;cbv;cbv;cases h;exact fin
 include hI hM
theorem oM{a0:ai}{a1:ByteArray}{v:Int×Int}(h:vA I M n a0 a1=some v):
  cj 90 [(.agg (bd M r a0)),(vs a1)] (.gY [(vi v.1),(vi v.2)]) g nx:=by
 refine Aq func90 c90 r afk ajB [] 20 ntmps90 [.tmp 4,.tmp 5] hI (bF.cons (GM r) (vK PP im)) 8 fun call hc=>?_;cbv;refine ah h fun y1 c4 h=>⟨_,_,_,us hc (db hI hM c4),?_⟩;cbv;refine si h (fun h=>by cbv;cases h;exact fin) fun h=>?_;cbv;refine ah h fun y2 sS h=>⟨_,_,_,us hc (fS hI hM sS),?_⟩;cbv;exact si h (fun h=>by cbv;cases h;exact fin) fun h=>by cbv;cases h;exact fin
 include hI hM
theorem wu{a0:aD}{a1:aD}{a2:ai}{a3:List Int}{v:Bool}(h:qX I M n a0 a1 a2 a3=some v):
  cj 153 [(.agg (bu M r a0)),(.agg (bu M r a1)),(.aX r (bd M r a2) 0),(.nG rl 1 (M.map ax a3))] (vb v) g nx:=by
 refine cK func153 avo r ZD acj [] 60 ntmps153 [.tmp 6] hI fun call hc=>?_;cbv;refine ah h fun y1 c4 h=>⟨_,fun hp=>us hc (dQ hI hM (aE c4 hp.1)),?_⟩;cbv;refine si h (fun h=>by cbv;cases h;exact fin) fun h=>?_;cbv;refine ah h fun y2 sS h=>⟨_,_,_,us hc (dI hI hM sS),?_⟩;cbv;refine si h (fun h=>by cbv;cases h;exact fin) fun h=>?_;cbv;refine ah h fun y3 D8 h=>⟨_,_,_,us hc (oM hI hM D8),?_⟩;cbv;refine ah h fun y4 nI h=>⟨_,_,_,us hc (oM hI hM nI),?_⟩;cbv;refine ah h fun u5 qu5 h=>?_;refine ah h fun x6 ER h=>?_;refine ah h fun x7 zr h=>?_;apply Exists.intro;refine⟨?_,_,rfl,?_⟩
 ·cbv;repeat' first|exact .inl rfl|exact trivial|(refine⟨_,⟨aQ hI hM qu5,rfl,Li (enc:=ax) hM ER⟩,?_⟩;cbv)|(refine⟨_,⟨aQ hI hM qu5,rfl,Li (enc:=ax) hM zr⟩,?_⟩;cbv)|apply And.intro
  all_goals exact bw
 cbv;cases h;exact fin
 include hI hM
theorem sZ{a0:List aD}{a1:List aD}{Db:ai}{Da:List Int}{v:Bool}(h:nT I M n a0 a1 Db Da=some v):
  cj 98 [(.sl r (M.map (bu M r) a0)),(.sl r (M.map (bu M r) a1)),(.fn (.func 153) [(.aX r (bd M r Db) 0),(.nG rl 1 (M.map ax Da))])] (vb v) g nx:=by
 refine cK func98 c98 r UQ Ye [] 32 ntmps98 [.tmp 6] hI fun call hc=>?_;cbv;refine letE h fun n1 dw h=>⟨_,an hI hM dw,?_⟩;cbv;refine letE h fun n2 pf h=>⟨_,an hI hM pf,?_⟩;cbv;refine si h (fun h=>by cbv;cases h;exact fin) fun h=>?_;cbv;refine⟨_,an hI hM dw,?_⟩;cbv;refine lp h (fun z3=>[(17,(vi z3))]) (fun z3=>[]) fun kS m1 aZ z3 h=>?_;dsimp only[lY]at h;cbv;refine si h (fun h=>?_) fun h=>by cbv;cases h;exact fin
 cbv;refine ah h fun x4 ur h=>⟨_,aq hM ur rfl,?_⟩;cbv;refine ah h fun x5 sa h=>⟨_,aq hM sa rfl,?_⟩;cbv;refine ah h fun y6 yW h=>⟨_,_,_,us hc (wu hI hM yW),?_⟩;cbv;refine si h (fun h=>by cbv;cases h;exact fin) fun h=>?_;cbv;exact b8 (aZ _ _ h)
 include hI hM
theorem BD{a0:ai}{a1:List Int}{a2:ag}{a3:ag}{v:Bool}(h:xD I M n a0 a1 a2 a3=some v):
  cj 127 [(.agg (bd M r a0)),(.ar 12 1 (M.map ax a1)),(.agg (aB M r a2)),(.agg (aB M r a3))] (vb v) g nx:=by
 refine cK func127 avJ r Z1 acJ [5] 36 ntmps127 [.tmp 8] hI fun call hc=>?_;cbv;try(refine⟨⟨by decide,by decide⟩,?_⟩;cbv)
 refine ah h fun y1 c4 h=>⟨fun _=>rfl,(vb y1),fun hp=>fun ρ=>by cbv;exact us hc (sZ hI hM (aE c4 hp.1)),?_⟩;cbv;cbv;cases h;exact fin
 include hI hM
theorem ug{a0:ag}{a1:ag}{a2:ai}{a3:List Int}{v:Bool}(h:pg I M n a0 a1 a2 a3=some v):
  cj 126 [(.agg (aB M r a0)),(.agg (aB M r a1)),(.aX rl (bd M r a2) 0),(.nG rl 1 (M.map ax a3))] (vb v) g nx:=by
 refine cK func126 avK r Z2 acK [] 12 ntmps126 [.tmp 6] hI fun call hc=>?_;cbv;refine ah h fun u1 qu1 h=>?_
 (first|refine⟨⟨aQ hI hM qu1,rfl⟩,?_⟩|refine⟨⟨aQ hI hM qu1,trivial⟩,?_⟩|refine⟨aQ hI hM qu1,?_⟩)
 cbv;refine ah h fun y2 sS h=>⟨_,_,_,us hc (BD hI hM sS),?_⟩;cbv;cbv;cases h;exact fin
 include hI hM
theorem qv{a0:List ag}{a1:List ag}{Db:ai}{Da:List Int}{v:Bool}(h:kg I M n a0 a1 Db Da=some v):
  cj 101 [(.sl r (M.map (aB M r) a0)),(.sl r (M.map (aB M r) a1)),(.fn (.func 126) [(.aX rl (bd M r Db) 0),(.nG rl 1 (M.map ax Da))])] (vb v) g nx:=by
 refine cK func101 api r QT RP [] 32 ntmps101 [.tmp 6] hI fun call hc=>?_;cbv;refine letE h fun n1 dw h=>⟨_,an hI hM dw,?_⟩;cbv;refine letE h fun n2 pf h=>⟨_,an hI hM pf,?_⟩;cbv;refine si h (fun h=>by cbv;cases h;exact fin) fun h=>?_;cbv;refine⟨_,an hI hM dw,?_⟩;cbv;refine lp h (fun z3=>[(17,(vi z3))]) (fun z3=>[]) fun kS m1 aZ z3 h=>?_;dsimp only[js]at h;cbv;refine si h (fun h=>?_) fun h=>by cbv;cases h;exact fin
 cbv;refine ah h fun x4 ur h=>⟨_,aq hM ur rfl,?_⟩;cbv;refine ah h fun x5 sa h=>⟨_,aq hM sa rfl,?_⟩;cbv;refine ah h fun y6 yW h=>⟨_,_,_,us hc (ug hI hM yW),?_⟩;cbv;refine si h (fun h=>by cbv;cases h;exact fin) fun h=>?_;cbv;exact b8 (aZ _ _ h)
 include hI hM
theorem wB{a0:aj}{a1:ai}{a2:List Int}{a3:Int}{a4:aj}{v:Bool}(h:qY I M n a0 a1 a2 a3 a4=some v):
  cj 125 [(.agg (aA M r a0)),(.aX rl (bd M r a1) 0),(.nG rl 1 (M.map ax a2)),(.aX r [(vi a3)] 0),(.aX r (aA M r a4) 0)] (vb v) g nx:=by
 refine cK func125 avL r Z3 acL [] 38 ntmps125 [.tmp 6] hI fun call hc=>?_;cbv;refine ah h fun y1 c4 h=>⟨_,_,_,us hc (oM hI hM c4),?_⟩;cbv;refine ah h fun u2 qu2 h=>?_;refine ah h fun x3 lG h=>?_;refine ah h fun x4 ur h=>?_;refine ah h fun y5 HB h=>?_;apply Exists.intro;refine⟨?_,_,rfl,?_⟩
 ·cbv;repeat' first|exact .inl rfl|exact trivial|(refine⟨_,⟨aQ hI hM qu2,rfl,Li (enc:=ax) hM lG⟩,?_⟩;cbv)|(refine⟨_,⟨aQ hI hM qu2,rfl,Li (enc:=ax) hM ur⟩,?_⟩;cbv)|(refine⟨_,fun hp=>us hc (qv hI hM (aE HB hp.1)),?_⟩;cbv)|apply And.intro
  all_goals exact bw
 cbv;cases h;exact fin
 include hI hM
theorem qL{a0:List aj}{bn:ai}{xj:List Int}{T1:Int}{T0:aj}{v:Int}(h:ly I M n a0 bn xj T1 T0=some v):
  cj 92 [(.sl r (M.map (aA M r) a0)),(.fn (.func 125) [(.aX rl (bd M r bn) 0),(.nG rl 1 (M.map ax xj)),(.aX r [(vi T1)] 0),(.aX r (aA M r T0) 0)])] (vi v) g nx:=by
 refine cK func92 c92 r JG K3 [] 19 ntmps92 [.tmp 4] hI fun call hc=>?_;cbv;refine letE h fun n1 dw h=>⟨_,an hI hM dw,?_⟩;cbv;refine lp h (fun z2=>[(8,(vi z2))]) (fun z2=>[]) fun kS m1 aZ z2 h=>?_;dsimp only[jS]at h;cbv;refine si h (fun h=>?_) fun h=>by cbv;cases h;exact fin
 cbv;refine ah h fun x3 lG h=>⟨_,aq hM lG rfl,?_⟩;cbv;refine ah h fun y4 nI h=>⟨_,_,_,us hc (wB hI hM nI),?_⟩;cbv;refine si h (fun h=>by cbv;cases h;exact fin) fun h=>?_;cbv;exact b8 (aZ _ _ h)
 include hI hM
theorem tJ{a0:ai}{v:List Int}(h:sf I M n a0=some v):
  cj 85 [(.agg (bd M r a0))] (.ar 12 1 (M.map ax v)) g nx:=by
 refine cK func85 c85 r afp ajG [1,3] 30 ntmps85 [.cell 2 110] hI fun call hc=>?_;cbv;refine letE h fun l1 Kk h=>⟨_,⟨rfl,eR (enc:=ax) hI hM Kk rfl⟩,?_⟩;cbv;refine letE h fun l2 Ea h=>⟨_,⟨rfl,eR (enc:=ax) hI hM Ea rfl⟩,?_⟩;cbv;refine lp h (fun l3=>[]) (fun l3=>[(3,.arr 1 (M.map ax l3))]) fun kS m1 aZ l3 h=>?_;dsimp only[uL]at h;cbv;refine letE h fun l4 NZ h=>⟨_,⟨rfl,eR (enc:=ax) hI hM NZ rfl⟩,?_⟩;cbv;refine letE h fun n5 SS h=>⟨_,an hI hM SS,?_⟩;cbv;refine lp h (fun(l6,z7)=>[(10,(vi z7))]) (fun(l6,z7)=>[(4,.arr 1 (M.map ax l6))]) fun Dc m2 dm st h=>?_;obtain⟨l6,z7⟩:=st;dsimp only[uK]at h;cbv;refine si h (fun h=>?_) fun h=>?_
 ·cbv;refine ah h fun x8 Q3 h=>⟨_,aq hM Q3 rfl,?_⟩;cbv;refine ah h fun l9 ql9 h=>?_;refine ah h fun wY tV h=>?_;refine ah h fun k11 aaS h=>?_;refine ah h fun wO vQ h=>?_;refine ah h fun yY ahU h=>?_;apply Exists.intro;refine⟨?_,_,rfl,?_⟩
  ·cbv;(repeat' first|exact .inl rfl|exact trivial|(refine⟨_,K9 hI hM ql9 (fun _=>rfl),?_⟩;cbv)|(refine⟨fun _=>rfl,(vi wY),g,nx,fun ρ=>by cbv;exact us hc (qL hI hM tV),?_⟩;cbv)|((first|refine⟨_,⟨rfl,rfl,aL hI aaS⟩,?_⟩|refine⟨_,aL hI aaS,?_⟩);cbv)|(refine⟨_,dV hI hM vQ ahU (by decide) rfl rfl,?_⟩;cbv)|apply And.intro);all_goals exact bw
  cbv;exact b8 (dm _ _ h)
 cbv;refine ah h fun u16 J9 h=>?_
 (first|refine⟨⟨rfl,aQ hI hM J9,rfl⟩,?_⟩|refine⟨⟨aQ hI hM J9,trivial⟩,?_⟩|refine⟨aQ hI hM J9,?_⟩)
 cbv;refine ah h fun u17 ag8 h=>?_
 (first|refine⟨⟨rfl,aQ hI hM ag8,rfl⟩,?_⟩|refine⟨⟨aQ hI hM ag8,trivial⟩,?_⟩|refine⟨aQ hI hM ag8,?_⟩)
 cbv;refine ah h fun u18 ar1 h=>?_;refine ah h fun u19 aaM h=>?_;refine letE h fun b20 asH h=>⟨_,X4 hM ar1 aaM asH rfl,?_⟩;cbv;refine si h (fun h=>?_) fun h=>?_
 ·cbv;refine ah h fun u21 O5 h=>?_
  (first|refine⟨⟨rfl,aQ hI hM O5,rfl⟩,?_⟩|refine⟨⟨aQ hI hM O5,trivial⟩,?_⟩|refine⟨aQ hI hM O5,?_⟩)
  cbv;refine ah h fun Zs AX h=>?_
  (first|refine⟨⟨rfl,rfl,rfl,aQ hI hM AX,rfl,(by have hq:=cg (enc:=ax) hM (fun _=>rfl) l3;rw[cR.eq_def]at hq;exact hq)⟩,?_⟩|refine⟨⟨aQ hI hM AX,(by have hq:=cg (enc:=ax) hM (fun _=>rfl) l3;rw[cR.eq_def]at hq;exact hq)⟩,?_⟩)
  cbv;refine ah h fun Sh sT h=>?_;obtain rfl:=o5 h;cbv;all_goals(repeat' apply And.intro)
  all_goals first|trivial|rfl|exact(aK hM)|exact aQ hI hM sT
 cbv;refine ah h fun YY vR h=>?_
 (first|refine⟨⟨rfl,aQ hI hM vR,rfl⟩,?_⟩|refine⟨⟨aQ hI hM vR,trivial⟩,?_⟩|refine⟨aQ hI hM vR,?_⟩)
 cbv;refine ah h fun UO Cp h=>?_
 (first|refine⟨⟨rfl,rfl,rfl,aQ hI hM Cp,rfl,(by have hq:=cg (enc:=ax) hM (fun _=>rfl) l6;rw[cR.eq_def]at hq;exact hq)⟩,?_⟩|refine⟨⟨aQ hI hM Cp,(by have hq:=cg (enc:=ax) hM (fun _=>rfl) l6;rw[cR.eq_def]at hq;exact hq)⟩,?_⟩)
 cbv;exact b8 (aZ _ _ h)
end Ab
namespace Ab
open Go
set_option maxHeartbeats 4000000
set_option maxRecDepth 100000
theorem MJ{α:Type}{I:Pr}(hI:I=ak){M:Md}(hM:M= .ak){enc:α→List AV}{l:List α}(h:I.fV (M.map enc l)=0):l=[]:=by
 subst hI;subst hM;have h:(l.map enc).length=0:=h
 cases l with
 |nil=>rfl
 |cons x r=>simp at h
theorem adr{α:Type}{b:Nat}{l:List α}(h:Lh b ([]:List α) []=some l):l=[]:=by
 unfold Lh at h;simp at h;exact h
theorem yi{I:Pr}(hI:I=ak){M:Md}(hM:M= .ak){n:Nat}{a0:List Int}{v:List Int}(h:pt I M n a0=some v)(g:Nat→Option Ob)(nx:Nat){s:Nat}(r:Nat):
  lR PP 86 [(.sl s (M.map ax a0))] g nx (.sl r (M.map ax v)) g nx:=by
 obtain⟨wrap,add,sub,mul,aS,bf,rL,seq,cat,beq,not,pick,Ts,imax,fV,Qp,app,CZ,K8,flat,chunk,rep,set,room,within,nat,Ge,nz,nr⟩:=I;obtain⟨map,ln⟩:=M;refine C3 lay mixed Go.Proofs.Tryz.func86 (c:=c86) (by kernel_rfl) rfl r [] afo ajF [] im (vK PP im) (cl0 im) 0 (by kernel_rfl) 8 Go.Proofs.Tryz.ntmps86 rfl (rs:=[.tmp 2]) (by kernel_rfl) hI fun call hc=>?_;cbv;intro b hb;cbv;refine⟨fun AF=>?_,fun IU=>?_⟩
 ·have h0:=MJ hI hM (hb AF)
  subst h0;cbv;refine ah h fun l1 Kk h=>?_;have h1:l1=[]:=by
   have:=adr Kk
   exact this
  subst h1;obtain rfl:=o5 h;cbv;all_goals(repeat' apply And.intro)
  all_goals first|trivial|rfl|exact(aK hM)
 ·cbv;refine⟨_,bl0 (enc:=ax) hM,?_⟩;cbv;refine ah h fun l1 Kk h=>?_;refine⟨_,Qw (enc:=ax) hI hM Kk (fun _=>rfl) rfl (fun _=>rfl),?_⟩;cbv;obtain rfl:=o5 h;cbv;all_goals(repeat' apply And.intro)
  all_goals first|trivial|rfl|exact(aK hM)
theorem zc{I:Pr}(hI:I=ak){M:Md}(hM:M= .ak){n nx r s:Nat}{g:Nat→Option Ob}{a0:List Int}{v:List Int}(h:pt I M n a0=some v):cj 86 [(.sl s (M.map ax a0))] (.sl r (M.map ax v)) g nx:=⟨enters Go.Proofs.Tryz.func86 (c:=c86) (by kernel_rfl) (by kernel_rfl),yi hI hM h g nx r⟩
end Ab
namespace Ab
open Go Go.Proofs.Tryz
set_option maxHeartbeats 100000000
set_option maxRecDepth 100000
variable{I:Pr}(hI:I=ak){M:Md}(hM:M= .ak){n nx r s p q u rl:Nat}{g:Nat→Option Ob}
 include hI hM
theorem BG{a0:ai}{v:(List Int)×Int}(h:xJ I M n a0=some v):
  cj 29 [(.agg (bd M r a0))] (.gY [(.sl r (M.map ax v.1)),(vi v.2)]) g nx:=by
 refine cK func29 c29 r af4 akl [] 18 ntmps29 [.tmp 2,.tmp 3] hI fun call hc=>?_;cbv;refine ah h fun y1 c4 h=>⟨_,_,_,us hc (db hI hM c4),?_⟩;cbv;refine si h (fun h=>by cbv;cases h;exact fin) fun h=>?_;cbv;refine ah h fun y2 sS h=>⟨_,_,_,us hc (tJ hI hM sS),?_⟩;cbv;refine letE h fun l3 Q6 h=>⟨_,⟨rfl,eR (enc:=ax) hI hM Q6 rfl⟩,?_⟩;cbv;refine ah h fun u4 O4 h=>?_
 (first|refine⟨⟨rfl,rfl,rfl,aQ hI hM O4,rfl,(by have hq:=cg (enc:=ax) hM (fun _=>rfl) y2;rw[cR.eq_def]at hq;exact hq)⟩,?_⟩|refine⟨⟨aQ hI hM O4,(by have hq:=cg (enc:=ax) hM (fun _=>rfl) y2;rw[cR.eq_def]at hq;exact hq)⟩,?_⟩)
 cbv;refine letE h fun n5 SS h=>⟨_,an hI hM SS,?_⟩;cbv;refine ah h fun j6 qj6 h=>⟨_,Yz (enc:=ax) hI hM qj6 (by decide),?_⟩;cbv;refine ah h fun y7 HA h=>⟨fun _=>rfl,(.sl r (M.map ax y7)),g,nx,fun ρ=>by cbv;refine us hc ((zc (s:=ρ) hI hM HA (r:=r)).wk ?_);exact⟨(ark hM y2 j6),trivial⟩,?_⟩;cbv;cbv;cases h;exact fin
 include hI hM
theorem HX{a0:ai}{v:(List Int)×Int}(h:wG I M n a0=some v):
  cj 123 [(.agg (bd M r a0))] (.gY [(.ar 5 1 (M.map ax v.1)),(vi v.2)]) g nx:=by
 refine cK func123 avN r Z5 acN [5005,6002,6004] 19 ntmps123 [.cell 2 140,.tmp 3] hI fun call hc=>?_;cbv;refine letE h fun l1 Kk h=>⟨_,⟨rfl,eR (enc:=ax) hI hM Kk rfl⟩,?_⟩;cbv;refine letE h fun l2 Ea h=>⟨_,⟨rfl,eR (enc:=ax) hI hM Ea rfl⟩,?_⟩;cbv;refine ah h fun y3 D8 h=>⟨_,_,_,us hc (db hI hM D8),?_⟩;cbv;refine si h (fun h=>?_) fun h=>?_
 ·cbv;refine ah h fun u4 O4 h=>?_
  (first|refine⟨⟨rfl,aQ hI hM O4,rfl⟩,?_⟩|refine⟨⟨aQ hI hM O4,trivial⟩,?_⟩|refine⟨aQ hI hM O4,?_⟩)
  cbv;refine ah h fun u5 qu5 h=>?_
  (first|refine⟨⟨rfl,rfl,rfl,aQ hI hM qu5,rfl,(by have hq:=cg (enc:=ax) hM (fun _=>rfl) l2;rw[cR.eq_def]at hq;exact hq)⟩,?_⟩|refine⟨⟨aQ hI hM qu5,(by have hq:=cg (enc:=ax) hM (fun _=>rfl) l2;rw[cR.eq_def]at hq;exact hq)⟩,?_⟩)
  cbv;refine ah h fun u6 qu6 h=>?_;obtain rfl:=o5 h;cbv;all_goals(repeat' apply And.intro)
  all_goals first|trivial|rfl|exact(aK hM)|exact aQ hI hM qu6
 cbv;refine ah h fun y7 HA h=>⟨_,_,_,us hc (sJ hI hM HA),?_⟩;cbv;refine letE h fun l8 SW h=>⟨_,⟨rfl,eR (enc:=ax) hI hM SW rfl⟩,?_⟩;cbv;refine ah h fun u9 qu9 h=>?_
 (first|refine⟨⟨rfl,rfl,rfl,aQ hI hM qu9,rfl,(by have hq:=cg (enc:=ax) hM (fun _=>rfl) y7;rw[cR.eq_def]at hq;exact hq)⟩,?_⟩|refine⟨⟨aQ hI hM qu9,(by have hq:=cg (enc:=ax) hM (fun _=>rfl) y7;rw[cR.eq_def]at hq;exact hq)⟩,?_⟩)
 cbv;refine Cd none [] [] g nx ?_ ?_
 ·cbv;all_goals(repeat' apply And.intro)
  all_goals first|trivial|rfl|exact(aK hM)
 cbv;refine ah h fun j10 asG h=>?_;refine ah h fun AD Kj h=>?_;refine letE h fun ia Wm h=>?_;refine letE h fun n13 VT h=>?_;apply Exists.intro;refine⟨?_,_,rfl,?_⟩
 ·cbv;repeat' first|exact .inl rfl|exact trivial|(refine⟨_,Yz (enc:=ax) hI hM asG (by decide),?_⟩;cbv)|(refine⟨_,akM (enc:=ax) hI hM Kj (by decide),?_⟩;cbv)|(refine⟨_,_,iK (enc:=ax) hI hM Wm VT rfl (fun _=>rfl) (fun _=>rfl),?_⟩;cbv)|apply And.intro
  all_goals exact bw
 cbv;refine ah h fun u14 Ka h=>?_
 (first|refine⟨⟨rfl,aQ hI hM Ka,rfl⟩,?_⟩|refine⟨⟨aQ hI hM Ka,trivial⟩,?_⟩|refine⟨aQ hI hM Ka,?_⟩)
 cbv;refine ah h fun u15 VE h=>?_
 (first|refine⟨⟨rfl,rfl,rfl,aQ hI hM VE,rfl,(by have hq:=cg (enc:=ax) hM (fun _=>rfl) ia;rw[cR.eq_def]at hq;exact hq)⟩,?_⟩|refine⟨⟨aQ hI hM VE,(by have hq:=cg (enc:=ax) hM (fun _=>rfl) ia;rw[cR.eq_def]at hq;exact hq)⟩,?_⟩)
 cbv;refine ah h fun u16 J9 h=>?_;obtain rfl:=o5 h;cbv;all_goals(repeat' apply And.intro)
 all_goals first|trivial|rfl|exact(aK hM)|exact aQ hI hM J9
 include hI hM
theorem BJ{a0:ai}{v:Int×Int}(h:vz I M n a0=some v):
  cj 79 [(.agg (bd M r a0))] (.gY [(vi v.1),(vi v.2)]) g nx:=by
 refine cK func79 c79 r afs ajJ [] 24 ntmps79 [.tmp 2,.tmp 3] hI fun call hc=>?_;cbv;refine ah h fun y1 c4 h=>⟨_,_,_,us hc (HX hI hM c4),?_⟩;cbv;refine letE h fun l2 Ea h=>⟨_,⟨rfl,eR (enc:=ax) hI hM Ea rfl⟩,?_⟩;cbv;refine ah h fun u3 qu3 h=>?_
 (first|refine⟨⟨rfl,rfl,rfl,aQ hI hM qu3,rfl,(by have hq:=cg (enc:=ax) hM (fun _=>rfl) y1.1;rw[cR.eq_def]at hq;exact hq)⟩,?_⟩|refine⟨⟨aQ hI hM qu3,(by have hq:=cg (enc:=ax) hM (fun _=>rfl) y1.1;rw[cR.eq_def]at hq;exact hq)⟩,?_⟩)
 cbv;refine ah h fun u4 O4 h=>?_
 (first|refine⟨⟨rfl,aQ hI hM O4,rfl⟩,?_⟩|refine⟨⟨aQ hI hM O4,trivial⟩,?_⟩|refine⟨aQ hI hM O4,?_⟩)
 cbv;refine lp h (fun(z5,z6)=>[(6,(vi z6)),(15,(vi z5))]) (fun _=>[]) fun kS m1 aZ st h=>?_;obtain⟨z5,z6⟩:=st;dsimp only[nC]at h;cbv;refine si h (fun h=>?_) fun h=>by cbv;cases h;exact fin
 cbv;refine ah h fun x7 zr h=>⟨_,akK (enc:=ax) hM zr rfl,?_⟩;cbv;exact b8 (aZ _ _ h)
 include hI hM
theorem zg{a0:aj}{a1:aj}{v:Bool}(h:py I M n a0 a1=some v):
  cj 81 [(.agg (aA M r a0)),(.agg (aA M r a1))] (vb v) g nx:=by
 refine cK func81 c81 r afr ajI [] 17 ntmps81 [.tmp 4] hI fun call hc=>?_;cbv;cases h;exact fin
 include hI hM
theorem qP{a0:List aj}{a1:List aj}{v:Bool}(h:dX I M n a0 a1=some v):
  cj 80 [(.sl r (M.map (aA M r) a0)),(.sl r (M.map (aA M r) a1)),(.fn (.func 81) [])] (vb v) g nx:=by
 refine cK func80 c80 r US Yg [] 32 ntmps80 [.tmp 6] hI fun call hc=>?_;cbv;refine letE h fun n1 dw h=>⟨_,an hI hM dw,?_⟩;cbv;refine letE h fun n2 pf h=>⟨_,an hI hM pf,?_⟩;cbv;refine si h (fun h=>by cbv;cases h;exact fin) fun h=>?_;cbv;refine⟨_,an hI hM dw,?_⟩;cbv;refine lp h (fun z3=>[(17,(vi z3))]) (fun z3=>[]) fun kS m1 aZ z3 h=>?_;dsimp only[du]at h;cbv;refine si h (fun h=>?_) fun h=>by cbv;cases h;exact fin
 cbv;refine ah h fun x4 ur h=>⟨_,aq hM ur rfl,?_⟩;cbv;refine ah h fun x5 sa h=>⟨_,aq hM sa rfl,?_⟩;cbv;refine ah h fun y6 yW h=>⟨_,_,_,us hc (zg hI hM yW),?_⟩;cbv;refine si h (fun h=>by cbv;cases h;exact fin) fun h=>?_;cbv;exact b8 (aZ _ _ h)
 include hI hM
theorem tK{a0:ai}{a1:ai}{v:Bool×Int}(h:kD I M n a0 a1=some v):
  cj 24 [(.agg (bd M r a0)),(.agg (bd M r a1))] (.gY [(vb v.1),(vi v.2)]) g nx:=by
 refine cK func24 c24 r af5 akm [] 35 ntmps24 [.tmp 4,.tmp 5] hI fun call hc=>?_;cbv;refine ah h fun y1 c4 h=>⟨_,_,_,us hc (BJ hI hM c4),?_⟩;cbv;refine si h (fun h=>by cbv;cases h;exact fin) fun h=>?_;cbv;refine ah h fun y2 sS h=>⟨_,_,_,us hc (BJ hI hM sS),?_⟩;cbv;refine si h (fun h=>by cbv;cases h;exact fin) fun h=>?_;cbv;refine ah h fun y3 D8 h=>⟨_,fun hp=>us hc (qP hI hM (aE D8 hp.1)),?_⟩;cbv;cbv;cases h;exact fin
 include hI hM
theorem uf{a0:ai}{a1:ByteArray}{v:Int}(h:pv I M n a0 a1=some v):
  cj 64 [(.agg (bd M r a0)),(vs a1)] (vi v) g nx:=by
 refine cK func64 c64 r afE ajV [] 22 ntmps64 [.tmp 4] hI fun call hc=>?_;cbv;refine lp h (fun z1=>[(5,(vi z1))]) (fun z1=>[]) fun kS m1 aZ z1 h=>?_;dsimp only[AU]at h;cbv;refine letE h fun n2 pf h=>⟨_,an hI hM pf,?_⟩;cbv;refine si h (fun h=>?_) fun h=>by cbv;cases h;exact fin
 cbv;refine ah h fun x3 lG h=>⟨_,aq hM lG rfl,?_⟩;cbv;refine si h (fun h=>by cbv;cases h;exact fin) fun h=>?_;cbv;exact b8 (aZ _ _ h)
 include hI hM
theorem KZ{a0:Int}{a1:Int}{a2:Int}{v:Bool}(h:Cm I M n a0 a1 a2=some v):
  cj 151 [(vi a0),(vi a1),(vi a2)] (vb v) g nx:=have _:=hM;by
 obtain⟨r,_⟩: ∃x:Nat,x=0:=⟨_,rfl⟩;refine cK func151 avq r ZF acm [] 15 ntmps151 [.tmp 6] hI fun call hc=>?_;cbv;cases h;exact fin
 include hI hM
theorem sH{a0:ByteArray}{v:Bool}(h:ni I M n a0=some v):
  cj 112 [(vs a0)] (vb v) g nx:=by
 obtain⟨r,_⟩: ∃x:Nat,x=0:=⟨_,rfl⟩;refine cK func112 avV r aag acY [] 23 ntmps112 [.tmp 2] hI fun call hc=>?_;cbv;refine letE h fun n1 dw h=>⟨_,iS hI dw,?_⟩;cbv;refine ah h fun y2 sS h=>⟨_,_,_,us hc (KZ hI hM sS),?_⟩;cbv;refine si h (fun h=>by cbv;cases h;exact fin) fun h=>?_;cbv;refine lp h (fun z3=>[(3,(vi z3))]) (fun z3=>[]) fun kS m1 aZ z3 h=>?_;dsimp only[pU]at h;cbv;refine letE h fun n4 Pa h=>⟨_,iS hI Pa,?_⟩;cbv;refine si h (fun h=>?_) fun h=>by cbv;cases h;exact fin
 cbv;refine ah h fun x5 sa h=>⟨_,pX sa,?_⟩;cbv;refine ah h fun x6 ER h=>⟨_,fun hp=>pX (aE ER hp.1),?_⟩;cbv;refine si h (fun h=>by cbv;cases h;exact fin) fun h=>?_;cbv;exact b8 (aZ _ _ h)
 include hI hM
theorem eu{a0:Int}{a1:Int}{a2:Int}{v:Bool}(h:fm I M n a0 a1 a2=some v):
  cj 62 [(vi a0),(vi a1),(vi a2)] (vb v) g nx:=have _:=hM;by
 obtain⟨r,_⟩: ∃x:Nat,x=0:=⟨_,rfl⟩;refine cK func62 c62 r afG ajX [] 15 ntmps62 [.tmp 6] hI fun call hc=>?_;cbv;cases h;exact fin
 include hI hM
theorem zf{a0:aj}{v:Int}(h:kX I M n a0=some v):
  cj 63 [(.agg (aA M r a0))] (vi v) g nx:=by
 refine cK func63 c63 r afF ajW [] 150 ntmps63 [.tmp 2] hI fun call hc=>?_;cbv;refine letE h fun n1 dw h=>⟨_,an hI hM dw,?_⟩;cbv;refine ah h fun y2 sS h=>⟨_,_,_,us hc (eu hI hM sS),?_⟩;cbv;refine si h (fun h=>by cbv;cases h;exact fin) fun h=>?_;cbv;refine lp h (fun z3=>[(3,(vi z3))]) (fun z3=>[]) fun kS m1 aZ z3 h=>?_;dsimp only[fG]at h;cbv;refine letE h fun n4 Pa h=>⟨_,an hI hM Pa,?_⟩;cbv;refine si h (fun h=>?_) fun h=>?_
 ·cbv;refine ah h fun x5 sa h=>⟨_,aq hM sa rfl,?_⟩;cbv;refine letE h fun n6 Q5 h=>⟨_,an hI hM Q5,?_⟩;cbv;refine ah h fun y7 HA h=>⟨_,_,_,us hc (eu hI hM HA),?_⟩;cbv;refine si h (fun h=>by cbv;cases h;exact fin) fun h=>?_;cbv;exact b8 (aZ _ _ h)
 cbv;refine ah h fun y9 Mh h=>⟨_,_,_,us hc (eu hI hM Mh),?_⟩;cbv;refine si h (fun h=>by cbv;cases h;exact fin) fun h=>?_;cbv;refine lp h (fun yS=>[(4,(vi yS))]) (fun yS=>[]) fun Dc m2 dm yS h=>?_;dsimp only[fF]at h;cbv;refine letE h fun xa zS h=>⟨_,an hI hM zS,?_⟩;cbv;refine si h (fun h=>?_) fun h=>?_
 ·cbv;refine ah h fun wO vQ h=>⟨_,aq hM vQ rfl,?_⟩;cbv;refine ah h fun sP xz h=>⟨_,_,_,us hc (eu hI hM xz),?_⟩;cbv;refine si h (fun h=>by cbv;cases h;exact fin) fun h=>?_;cbv;exact b8 (dm _ _ h)
 cbv;refine ah h fun H8 J2 h=>⟨_,_,_,us hc (sH hI hM J2),?_⟩;cbv;refine si h (fun h=>by cbv;cases h;exact fin) fun h=>?_;cbv;refine lp h (fun lD=>[(5,(vi lD))]) (fun lD=>[]) fun QA m3 kI lD h=>?_;dsimp only[fE]at h;cbv;refine letE h fun WY Pc h=>⟨_,an hI hM Pc,?_⟩;cbv;refine si h (fun h=>?_) fun h=>?_
 ·cbv;refine ah h fun yU O3 h=>⟨_,aq hM O3 rfl,?_⟩;cbv;refine ah h fun LL AW h=>⟨_,fun hp=>aq hM (aE AW hp.1) rfl,?_⟩;cbv;refine ah h fun R7 OV h=>⟨_,fun hp=>us hc (sH hI hM (aE OV hp.1)),?_⟩;cbv;refine si h (fun h=>by cbv;cases h;exact fin) fun h=>?_;cbv;exact b8 (kI _ _ h)
 cbv;refine lp h (fun D3=>[(6,(vi D3))]) (fun D3=>[]) fun YG m4 sW D3 h=>?_;dsimp only[fD]at h;cbv;refine letE h fun n23 SU h=>⟨_,an hI hM SU,?_⟩;cbv;refine si h (fun h=>?_) fun h=>?_
 ·cbv;refine ah h fun LK agU h=>⟨_,aq hM agU rfl,?_⟩;cbv;refine⟨_,an hI hM SU,?_⟩;cbv;refine si h (fun h=>by cbv;cases h;exact fin) fun h=>?_;cbv;exact b8 (sW _ _ h)
 cbv;refine lp h (fun EG=>[(8,(vi EG))]) (fun EG=>[]) fun YF m5 sV EG h=>?_;dsimp only[eb]at h;cbv;refine letE h fun n27 ar8 h=>⟨_,an hI hM ar8,?_⟩;cbv;refine si h (fun h=>?_) fun h=>by cbv;cases h;exact fin
 cbv;refine lp h (fun Lo=>[(9,(vi Lo))]) (fun Lo=>[]) fun Rm6 m6 vj Lo h=>?_
 as_aux_lemma=>
  dsimp only[fC]at h;cbv;refine si h (fun h=>?_) fun h=>?_
  ·cbv;refine ah h fun rF O1 h=>?_;refine ah h fun gO Vs h=>?_;refine ah h fun x31 arP h=>?_;refine ah h fun Zo Vr h=>?_;apply Exists.intro;refine⟨?_,_,rfl,?_⟩
   ·cbv;(repeat' first|exact .inl rfl|exact trivial|(refine⟨_,aq hM O1 rfl,?_⟩;cbv)|(refine⟨_,aq hM Vs rfl,?_⟩;cbv)|(refine⟨_,fun hp=>aq hM (aE arP hp.1) rfl,?_⟩;cbv)|(refine⟨_,fun hp=>aq hM (aE Vr hp.1) rfl,?_⟩;cbv)|apply And.intro);all_goals exact bw
   cbv;refine si h (fun h=>by cbv;cases h;exact fin) fun h=>?_;cbv;exact b8 (vj _ _ h)
  cbv;exact b8 (sV _ _ h)
 include hI hM
theorem HU{a0:List aD}{v:List Bool}(h:vP I M n a0=some v):
  cj 113 [(.sl r (M.map (bu M r) a0))] (.sl r (M.map cS v)) g nx:=by
 refine cK func113 avU r aaf acX [] 56 ntmps113 [.tmp 2] hI fun call hc=>?_;cbv;refine lp h (fun(l1,z2)=>[(3,(.gs r (.l 54) (M.map cS l1))),(4,(vi z2))]) (fun _=>[]) fun kS m1 aZ st h=>?_;obtain⟨l1,z2⟩:=st;dsimp only[nY]at h;cbv;refine letE h fun n3 qn3 h=>⟨_,an hI hM qn3,?_⟩;cbv;refine si h (fun h=>?_) fun h=>by cbv;cases h;exact fin
 cbv;refine ah h fun x4 ur h=>⟨_,aq hM ur rfl,?_⟩;cbv;refine lp h (fun(z5,z6)=>[(5,(vb z5)),(6,(vi z6))]) (fun _=>[]) fun Dc m2 dm st h=>?_;obtain⟨z5,z6⟩:=st;dsimp only[kZ]at h;cbv;refine ah h fun x7 zr h=>⟨_,aq hM zr rfl,?_⟩;cbv;refine letE h fun n8 SQ h=>⟨_,an hI hM SQ,?_⟩;cbv;refine si h (fun h=>?_) fun h=>?_
 ·cbv;refine ah h fun x9 SN h=>⟨_,fun hp=>aq hM (aE SN hp.1) rfl,?_⟩;cbv;refine ah h fun vE xB h=>⟨_,fun hp=>aq hM (aE (aE xB hp.1) hp.2.1) rfl,?_⟩;cbv;refine ah h fun Fg xA h=>⟨_,fun hp=>aq hM (aE (aE xA hp.1) hp.2.1) rfl,?_⟩;cbv;refine ah h fun wO vQ h=>⟨_,fun hp=>aq hM (aE (aE vQ hp.1) hp.2.1) rfl,?_⟩;cbv;exact b8 (dm _ _ h)
 cbv;refine⟨_,cq (enc:=cS) (x:=z5) hM (ao _) rfl,?_⟩;cbv;refine ah h fun yX Wg h=>⟨_,ay (enc:=cS) hI hM Wg (fun _=>rfl) rfl (fun _=>rfl),?_⟩;cbv;exact b8 (aZ _ _ h)
 include hI hM
theorem CX{a0:ai}{a1:aj}{a2:ag}{a3:Int}{v:Int}(h:mb I M n a0 a1 a2 a3=some v):
  cj 65 [(.agg (bd M r a0)),(.agg (aA M r a1)),(.agg (aB M r a2)),(vi a3)] (vi v) g nx:=by
 refine cK func65 c65 r afD ajU [] 149 ntmps65 [.tmp 8] hI fun call hc=>?_;cbv;refine ah h fun x1 qx1 h=>⟨_,aq hM qx1 rfl,?_⟩;cbv;refine ah h fun y2 sS h=>⟨_,_,_,us hc (eu hI hM sS),?_⟩;cbv;refine si h (fun h=>by cbv;cases h;exact fin) fun h=>?_;cbv;refine ah h fun y3 D8 h=>⟨_,fun hp=>us hc (sH hI hM (aE (aE D8 hp.1) hp.2.1)),?_⟩;cbv;refine si h (fun h=>by cbv;cases h;exact fin) fun h=>?_;cbv;refine ah h fun y4 nI h=>⟨_,fun hp=>us hc (eu hI hM (aE nI hp.1)),?_⟩;cbv;refine ah h fun y5 HB h=>⟨_,fun hp=>us hc (eu hI hM (aE (aE HB hp.1) hp.2.1)),?_⟩;cbv;refine si h (fun h=>by cbv;cases h;exact fin) fun h=>?_;cbv;refine letE h fun n6 Q5 h=>⟨_,an hI hM Q5,?_⟩;cbv;refine⟨_,an hI hM Q5,?_⟩;cbv;refine si h (fun h=>by cbv;cases h;exact fin) fun h=>?_;cbv;refine lp h (fun z7=>[(10,(vi z7))]) (fun z7=>[]) fun kS m1 aZ z7 h=>?_;dsimp only[jw]at h;cbv;refine letE h fun n8 SQ h=>⟨_,an hI hM SQ,?_⟩;cbv;refine si h (fun h=>?_) fun h=>?_
 ·cbv;refine ah h fun x9 SN h=>⟨_,aq hM SN rfl,?_⟩;cbv;refine ah h fun wY tV h=>⟨_,_,_,us hc (eu hI hM tV),?_⟩;cbv;refine si h (fun h=>by cbv;cases h;exact fin) fun h=>?_;cbv;exact b8 (aZ _ _ h)
 cbv;refine si h (fun h=>by cbv;cases h;exact fin) fun h=>?_;cbv;refine ah h fun EI FO h=>⟨_,_,_,us hc (uf hI hM FO),?_⟩;cbv;refine si h (fun h=>by cbv;cases h;exact fin) fun h=>?_;cbv;refine letE h fun n13 VT h=>?_;refine ah h fun wN FT h=>?_;apply Exists.intro;refine⟨?_,_,rfl,?_⟩
 ·cbv;repeat' first|exact .inl rfl|exact trivial|(refine⟨_,an hI hM VT,?_⟩;cbv)|(refine⟨_,aq hM FT rfl,?_⟩;cbv)|apply And.intro
  all_goals exact bw
 cbv;refine si h (fun h=>by cbv;cases h;exact fin) fun h=>?_;cbv;refine ah h fun yX Wg h=>⟨_,K9 hI hM Wg (fun _=>rfl),?_⟩;cbv;refine ah h fun Ji OW h=>⟨_,_,_,us hc (HU hI hM OW),?_⟩;cbv;refine lp h (fun Ho=>[(13,(vi Ho))]) (fun Ho=>[]) fun Dc m2 dm Ho h=>?_;dsimp only[jv]at h;cbv;refine letE h fun Uc VR h=>⟨_,an hI hM VR,?_⟩;cbv;refine si h (fun h=>?_) fun h=>by cbv;cases h;exact fin
 cbv;refine ah h fun LL AW h=>⟨_,aq hM AW rfl,?_⟩;cbv;refine ah h fun eT FR h=>⟨_,aq hM FR rfl,?_⟩;cbv;refine si h (fun h=>by cbv;cases h;exact fin) fun h=>?_
 as_aux_lemma=>
  cbv;exact b8 (dm _ _ h)
 include hI hM
theorem sG{a0:ai}{v:Int}(h:nh I M n a0=some v):
  cj 14 [(.agg (bd M r a0))] (vi v) g nx:=by
 refine cK func14 c14 r agc akt [] 101 ntmps14 [.tmp 2] hI fun call hc=>?_;cbv;refine letE h fun n1 dw h=>⟨_,an hI hM dw,?_⟩;cbv;refine ah h fun y2 sS h=>⟨_,_,_,us hc (eu hI hM sS),?_⟩;cbv;refine si h (fun h=>by cbv;cases h;exact fin) fun h=>?_;cbv;refine lp h (fun z3=>[(3,(vi z3))]) (fun z3=>[]) fun kS m1 aZ z3 h=>?_;dsimp only[mj]at h;cbv;refine letE h fun n4 Pa h=>⟨_,an hI hM Pa,?_⟩;cbv;refine si h (fun h=>?_) fun h=>?_
 ·cbv;refine ah h fun x5 sa h=>⟨_,aq hM sa rfl,?_⟩;cbv;refine ah h fun y6 yW h=>⟨_,_,_,us hc (zf hI hM yW),?_⟩;cbv;refine si h (fun h=>by cbv;cases h;exact fin) fun h=>?_;cbv;exact b8 (aZ _ _ h)
 cbv;refine lp h (fun z8=>[(5,(vi z8))]) (fun z8=>[]) fun Dc m2 dm z8 h=>?_;dsimp only[mi]at h;cbv;refine letE h fun n9 qn9 h=>⟨_,an hI hM qn9,?_⟩;cbv;refine si h (fun h=>?_) fun h=>?_
 ·cbv;refine ah h fun vE xB h=>?_;refine ah h fun wL zQ h=>?_;apply Exists.intro;refine⟨?_,_,rfl,?_⟩
  ·cbv;(repeat' first|exact .inl rfl|exact trivial|(refine⟨_,aq hM xB rfl,?_⟩;cbv)|(refine⟨_,_,_,us hc (uf hI hM zQ),?_⟩;cbv)|apply And.intro);all_goals exact bw
  cbv;refine si h (fun h=>by cbv;cases h;exact fin) fun h=>?_;cbv;exact b8 (dm _ _ h)
 cbv;refine lp h (fun pa=>[(6,(vi pa))]) (fun pa=>[]) fun QA m3 kI pa h=>?_;dsimp only[mh]at h;cbv;refine letE h fun MP Pd h=>⟨_,an hI hM Pd,?_⟩;cbv;refine si h (fun h=>?_) fun h=>by cbv;cases h;exact fin
 cbv;refine lp h (fun wX=>[(7,(vi wX)),(52,.any)]) (fun wX=>[]) fun YG m4 sW wX h=>?_;dsimp only[mg]at h;cbv;refine ah h fun UB Mj h=>⟨_,aq hM Mj rfl,?_⟩;cbv;refine letE h fun WY Pc h=>⟨_,an hI hM Pc,?_⟩;cbv;refine si h (fun h=>?_) fun h=>?_
 ·as_aux_lemma=>
   cbv;refine⟨_,aq hM Mj rfl,?_⟩;cbv;refine ah h fun yU O3 h=>⟨_,aq hM O3 rfl,?_⟩;cbv;refine lp h (fun fh=>[(9,(vi fh))]) (fun fh=>[]) fun YF m5 sV fh h=>?_;dsimp only[mf]at h;cbv;refine letE h fun n20 asc h=>⟨_,an hI hM asc,?_⟩;cbv;refine si h (fun h=>?_) fun h=>?_
   ·cbv;refine ah h fun yt Vt h=>?_;refine ah h fun y22 agx h=>?_;apply Exists.intro;refine⟨?_,_,rfl,?_⟩
    ·cbv;(repeat' first|exact .inl rfl|exact trivial|(refine⟨_,aq hM Vt rfl,?_⟩;cbv)|(refine⟨_,_,_,us hc (CX hI hM agx),?_⟩;cbv)|apply And.intro);all_goals exact bw
    cbv;refine si h (fun h=>by cbv;cases h;exact fin) fun h=>?_;cbv;exact b8 (sV _ _ h)
   cbv;refine letE h fun n24 asa h=>⟨_,an hI hM asa,?_⟩;cbv;refine ah h fun y25 agw h=>⟨_,_,_,us hc (eu hI hM agw),?_⟩;cbv;refine si h (fun h=>by cbv;cases h;exact fin) fun h=>?_;cbv;exact b8 (sW _ _ h)
 cbv;exact b8 (kI _ _ h)
 include hI hM
theorem zd{a0:ag}{a1:ag}{v:Bool}(h:kW I M n a0 a1=some v):
  cj 69 [(.agg (aB M p a0)),(.agg (aB M r a1))] (vb v) g nx:=by
 refine cK func69 c69 r afA ajR [] 100 ntmps69 [.tmp 4] hI fun call hc=>?_;cbv;refine letE h fun n1 dw h=>⟨_,an hI hM dw,?_⟩;cbv;refine letE h fun n2 pf h=>⟨_,an hI hM pf,?_⟩;cbv;refine si h (fun h=>by cbv;cases h;exact fin) fun h=>?_;cbv;refine lp h (fun z3=>[(5,(vi z3)),(36,.any)]) (fun z3=>[]) fun kS m1 aZ z3 h=>?_;dsimp only[iV]at h;cbv;refine letE h fun n4 Pa h=>⟨_,an hI hM Pa,?_⟩;cbv;refine si h (fun h=>?_) fun h=>by cbv;cases h;exact fin
 cbv;refine ah h fun x5 sa h=>?_;refine ah h fun x6 ER h=>?_;refine bk none [(6,(.ptr (.s 6) 0)),(7,(.ptr (.s 7) 0))] [(6,.box [(vi x5.kind),(vs x5.name),(vi x5.num),(.sl p (M.map ax x5.args))]),(7,.box [(vi x6.kind),(vs x6.name),(vi x6.num),(.sl r (M.map ax x6.args))])] g nx ?_ ?_
 ·cbv;repeat' first|exact .inl rfl|exact trivial|(refine⟨_,aq hM sa rfl,?_⟩;cbv)|(refine⟨_,aq hM ER rfl,?_⟩;cbv)|apply And.intro
  all_goals exact bw
 cbv;refine letE h fun n7 qn7 h=>⟨_,an hI hM qn7,?_⟩;cbv;refine letE h fun n8 SQ h=>⟨_,an hI hM SQ,?_⟩;cbv;refine si h (fun h=>by cbv;cases h;exact fin) fun h=>?_;cbv;refine lp h (fun z9=>[(8,(vi z9))]) (fun z9=>[]) fun Dc m2 dm z9 h=>?_;dsimp only[iU]at h;cbv;refine letE h fun Ky Ke h=>⟨_,an hI hM Ke,?_⟩;cbv;refine si h (fun h=>?_) fun h=>?_
 ·cbv;refine ah h fun Fg xA h=>?_;refine ah h fun wO vQ h=>?_;apply Exists.intro;refine⟨?_,_,rfl,?_⟩
  ·cbv;(repeat' first|exact .inl rfl|exact trivial|(refine⟨_,aq hM xA rfl,?_⟩;cbv)|(refine⟨_,aq hM vQ rfl,?_⟩;cbv)|apply And.intro);all_goals exact bw
  cbv;refine si h (fun h=>by cbv;cases h;exact fin) fun h=>?_;cbv;exact b8 (dm _ _ h)
 cbv;exact b8 (aZ _ _ h)
 include hI hM
theorem gU{a0:ai}{a1:ai}{v:Bool}(h:dE I M n a0 a1=some v):
  cj 18 [(.agg (bd M p a0)),(.agg (bd M r a1))] (vb v) g nx:=by
 refine cK func18 c18 r agb aks [] 73 ntmps18 [.tmp 4] hI fun call hc=>?_;cbv;refine letE h fun n1 dw h=>⟨_,an hI hM dw,?_⟩;cbv;refine letE h fun n2 pf h=>⟨_,an hI hM pf,?_⟩;cbv;refine si h (fun h=>by cbv;cases h;exact fin) fun h=>?_;cbv;refine lp h (fun z3=>[(5,(vi z3)),(15,.any)]) (fun z3=>[]) fun kS m1 aZ z3 h=>?_;dsimp only[rA]at h;cbv;refine letE h fun n4 Pa h=>⟨_,an hI hM Pa,?_⟩;cbv;refine si h (fun h=>?_) fun h=>by cbv;cases h;exact fin
 cbv;refine ah h fun x5 sa h=>?_;refine ah h fun x6 ER h=>?_;refine bk none [(6,(.ptr (.s 6) 0)),(7,(.ptr (.s 7) 0))] [(6,.box [(vs x5.name),(vi x5.aI),(.sl p (M.map (aB M p) x5.ae))]),(7,.box [(vs x6.name),(vi x6.aI),(.sl r (M.map (aB M r) x6.ae))])] g nx ?_ ?_
 ·cbv;repeat' first|exact .inl rfl|exact trivial|(refine⟨_,aq hM sa rfl,?_⟩;cbv)|(refine⟨_,aq hM ER rfl,?_⟩;cbv)|apply And.intro
  all_goals exact bw
 cbv;refine letE h fun n7 qn7 h=>⟨_,an hI hM qn7,?_⟩;cbv;refine letE h fun n8 SQ h=>⟨_,an hI hM SQ,?_⟩;cbv;refine si h (fun h=>by cbv;cases h;exact fin) fun h=>?_;cbv;refine lp h (fun z9=>[(8,(vi z9))]) (fun z9=>[]) fun Dc m2 dm z9 h=>?_;dsimp only[rz]at h;cbv;refine letE h fun Ky Ke h=>⟨_,an hI hM Ke,?_⟩;cbv;refine si h (fun h=>?_) fun h=>?_
 ·cbv;refine ah h fun Fg xA h=>?_;refine ah h fun wO vQ h=>?_;refine ah h fun sP xz h=>?_;apply Exists.intro;refine⟨?_,_,rfl,?_⟩
  ·cbv;(repeat' first|exact .inl rfl|exact trivial|(refine⟨_,aq hM xA rfl,?_⟩;cbv)|(refine⟨_,aq hM vQ rfl,?_⟩;cbv)|(refine⟨_,_,_,us hc (zd hI hM xz),?_⟩;cbv)|apply And.intro);all_goals exact bw
  cbv;refine si h (fun h=>by cbv;cases h;exact fin) fun h=>?_;cbv;exact b8 (dm _ _ h)
 cbv;exact b8 (aZ _ _ h)
 include hI hM
theorem HT{a0:ag}{v:List Bool}(h:vO I M n a0=some v):
  cj 130 [(.agg (aB M r a0))] (.sl r (M.map cS v)) g nx:=by
 refine cK func130 avI r ZY acG [] 81 ntmps130 [.tmp 2] hI fun call hc=>?_;cbv;refine letE h fun n1 dw h=>⟨_,an hI hM dw,?_⟩;cbv;refine ah h fun l2 Ea h=>⟨_,_,eh (enc:=cS) hI hM Ea (by decide) rfl,?_⟩;cbv;refine⟨_,an hI hM dw,?_⟩;cbv;refine lp h (fun(l3,z4)=>[(4,(vi z4))]) (fun(l3,z4)=>[(9,.arr 1 (M.map cS l3))]) fun kS m1 aZ st h=>?_;obtain⟨l3,z4⟩:=st;dsimp only[nX]at h;cbv;refine si h (fun h=>?_) fun h=>?_
 ·as_aux_lemma=>
   cbv;refine ah h fun k5 qk5 h=>⟨_,cE hI hM qk5,?_⟩;cbv;refine ah h fun x6 ER h=>⟨_,_,rfl,bj hM ER,rfl,?_⟩;cbv;refine ah h fun x7 zr h=>⟨_,fun hp=>aq hM (aE zr hp.1) rfl,?_⟩;cbv;refine⟨_,cE hI hM qk5,?_⟩;cbv;refine ah h fun l8 SW h=>⟨_,dV hI hM ER SW (by decide) rfl rfl,?_⟩;cbv;refine lp h (fun(l9,yS)=>[(5,(vi yS))]) (fun(l9,yS)=>[(9,.arr 1 (M.map cS l9))]) fun Dc m2 dm st h=>?_;obtain⟨l9,yS⟩:=st;dsimp only[kY]at h;cbv;refine ah h fun Fg xA h=>⟨_,aq hM xA rfl,?_⟩;cbv;refine letE h fun Y5 VW h=>⟨_,an hI hM VW,?_⟩;cbv;refine si h (fun h=>?_) fun h=>?_
   ·cbv;refine ah h fun Dk zR h=>?_;refine ah h fun k14 ahV h=>?_;refine ah h fun AB D9 h=>?_;refine ah h fun k16 asF h=>?_;refine ah h fun sQ Co h=>?_;refine ah h fun rJ We h=>?_;apply Exists.intro;refine⟨?_,_,rfl,?_⟩
    ·cbv;(repeat' first|exact .inl rfl|exact trivial|(refine⟨_,aq hM xA rfl,?_⟩;cbv)|(refine⟨_,aq hM zR rfl,?_⟩;cbv)|(refine⟨_,cE hI hM ahV,?_⟩;cbv)|(refine⟨_,_,rfl,bj hM D9,rfl,?_⟩;cbv)|(refine⟨_,fun hp=>cE hI hM (aE asF hp.1),?_⟩;cbv)|(refine⟨_,_,rfl,fun hp=>bj hM (aE Co hp.1),rfl,?_⟩;cbv)|(refine⟨_,dV hI hM D9 We (by decide) rfl rfl,?_⟩;cbv)|apply And.intro);all_goals exact bw
    cbv;exact b8 (dm _ _ h)
   cbv;exact b8 (aZ _ _ h)
 cbv;refine ah h fun Sh sT h=>?_;obtain rfl:=o5 h;cbv;all_goals(repeat' apply And.intro)
 all_goals first|trivial|rfl|exact(aK hM)|exact dG hM sT
 include hI hM
theorem mJ{a0:aD}{a1:List Int}{v:aD}(h:ep I M n a0 a1=some v):
  cj 131 [(.agg (bu M r a0)),(.sl s (M.map ax a1))] (.agg (bu M r v)) g nx:=by
 refine cK func131 avH r ZX acF [] 35 ntmps131 [.cell 4 64] hI fun call hc=>?_;cbv;refine lp h (fun(l1,z2)=>[(6,(vi z2))]) (fun(l1,z2)=>[(5,.box [(vi a0.kind),(vs a0.name),(vi a0.num),(.gs r (.c 5 3) (M.map ax l1))])]) fun kS m1 aZ st h=>?_;obtain⟨l1,z2⟩:=st;dsimp only[kq]at h;cbv;refine letE h fun n3 qn3 h=>⟨_,an hI hM qn3,?_⟩;cbv;refine si h (fun h=>?_) fun h=>by cbv;cases h;exact fin
 cbv;refine ah h fun x4 ur h=>?_;refine ah h fun x5 sa h=>?_;refine ah h fun l6 SY h=>?_;apply Exists.intro;refine⟨?_,_,rfl,?_⟩
 ·cbv;repeat' first|exact .inl rfl|exact trivial|(refine⟨_,aq hM ur rfl,?_⟩;cbv)|(refine⟨_,aq hM sa rfl,?_⟩;cbv)|(refine⟨_,cq (enc:=ax) (x:=x5) hM (ao _) rfl,?_⟩;cbv)|(refine⟨_,ay (enc:=ax) hI hM SY (fun _=>rfl) rfl (fun _=>rfl),?_⟩;cbv)|apply And.intro
  all_goals exact bw
 cbv;exact b8 (aZ _ _ h)
 include hI hM
theorem CW{a0:ag}{v:ag}(h:pT I M n a0=some v):
  cj 102 [(.agg (aB M r a0))] (.agg (aB M r v)) g nx:=by
 refine cK func102 av2 r aap ac7 [] 54 ntmps102 [.cell 2 61] hI fun call hc=>?_;cbv;refine ah h fun y1 c4 h=>⟨_,_,_,us hc (HT hI hM c4),?_⟩;cbv;refine letE h fun n2 pf h=>⟨_,an hI hM pf,?_⟩;cbv;refine ah h fun l3 Q6 h=>⟨_,_,eh (enc:=ax) hI hM Q6 (by decide) rfl,?_⟩;cbv;refine lp h (fun(l4,l5,z6)=>[(6,(vi z6))]) (fun(l4,l5,z6)=>[(4,.box [(vs a0.head),(vi a0.aM),(.gs r (.c 4 2) (M.map (bu M r) l5)),(vi 0)]),(17,.arr 1 (M.map ax l4))]) fun kS m1 aZ st h=>?_;obtain⟨l4,l5,z6⟩:=st;dsimp only[jt]at h;cbv;refine letE h fun n7 qn7 h=>⟨_,an hI hM qn7,?_⟩;cbv;refine si h (fun h=>?_) fun h=>?_
 ·cbv;refine ah h fun x8 Q3 h=>⟨_,aq hM Q3 rfl,?_⟩;cbv;refine si h (fun h=>?_) fun h=>?_
  ·cbv;refine letE h fun n9 qn9 h=>⟨_,an hI hM qn9,?_⟩;cbv;refine ah h fun Xh Ps h=>⟨_,cE hI hM Ps,?_⟩;cbv;refine ah h fun Fg xA h=>?_;refine ah h fun ia Wm h=>⟨_,dV hI hM xA Wm (by decide) rfl rfl,?_⟩;cbv;refine ah h fun Dk zR h=>?_;refine ah h fun u14 Ka h=>?_;refine ah h fun H8 J2 h=>?_;refine ah h fun PQ ahT h=>?_;apply Exists.intro;refine⟨?_,_,rfl,?_⟩
   ·cbv;(repeat' first|exact .inl rfl|exact trivial|(refine⟨_,aq hM zR rfl,?_⟩;cbv)|(refine⟨fun _=>rfl,(.agg (bu M r H8)),g,nx,fun ρ=>by cbv;refine us hc ((mJ (s:=ρ) hI hM J2).wk ?_);exact⟨aF _,(dG hM Ka),trivial⟩,?_⟩;cbv)|(refine⟨_,cq (enc:=(bu M r)) (x:=H8) hM (ao _) rfl,?_⟩;cbv)|(refine⟨_,ay (enc:=(bu M r)) hI hM ahT (fun _=>rfl) rfl (fun _=>rfl),?_⟩;cbv)|apply And.intro);all_goals exact bw
   cbv;exact b8 (aZ _ _ h)
  cbv;exact b8 (aZ _ _ h)
 cbv;refine ah h fun k20 asD h=>⟨_,cE hI hM asD,?_⟩;cbv;refine ah h fun yt Vt h=>⟨_,_,rfl,bj hM Vt,rfl,?_⟩;cbv;cbv;cases h;exact fin
 include hI hM
theorem sF{a0:aD}{v:Bool}(h:kr I M n a0=some v):
  cj 83 [(.agg (bu M r a0))] (vb v) g nx:=have _:=hM;by
 refine cK func83 c83 r afq ajH [] 11 ntmps83 [.tmp 2] hI fun call hc=>?_;cbv;cases h;exact fin
 include hI hM
theorem BC{a0:ag}{v:ag}(h:nV I M n a0=some v):
  cj 105 [(.agg (aB M r a0))] (.agg (aB M r v)) g nx:=by
 refine cK func105 avZ r aam ac4 [] 101 ntmps105 [.cell 2 61] hI fun call hc=>?_;cbv;refine letE h fun n1 dw h=>⟨_,an hI hM dw,?_⟩;cbv;refine ah h fun l2 Ea h=>⟨_,_,eh (enc:=cS) hI hM Ea (by decide) rfl,?_⟩;cbv;refine⟨_,an hI hM dw,?_⟩;cbv;refine lp h (fun(l3,z4)=>[(4,(vi z4))]) (fun(l3,z4)=>[(12,.arr 1 (M.map cS l3))]) fun kS m1 aZ st h=>?_;obtain⟨l3,z4⟩:=st;dsimp only[iz]at h;cbv;refine si h (fun h=>?_) fun h=>?_
 ·as_aux_lemma=>
   cbv;refine lp h (fun(l5,z6)=>[(5,(vi z6))]) (fun(l5,z6)=>[(12,.arr 1 (M.map cS l5))]) fun Dc m2 dm st h=>?_;obtain⟨l5,z6⟩:=st;dsimp only[fk]at h;cbv;refine ah h fun x7 zr h=>⟨_,aq hM zr rfl,?_⟩;cbv;refine letE h fun n8 SQ h=>⟨_,an hI hM SQ,?_⟩;cbv;refine si h (fun h=>?_) fun h=>?_
   ·cbv;refine⟨_,aq hM zr rfl,?_⟩;cbv;refine ah h fun y9 Mh h=>⟨_,_,_,us hc (sF hI hM Mh),?_⟩;cbv;refine ah h fun vE xB h=>⟨_,fun hp=>aq hM (aE xB hp.1) rfl,?_⟩;cbv;refine ah h fun k11 aaS h=>⟨_,fun hp=>cE hI hM (aE (aE aaS hp.1) hp.2.1),?_⟩;cbv;refine ah h fun wO vQ h=>⟨_,_,rfl,fun hp=>bj hM (aE (aE vQ hp.1) hp.2.1),rfl,?_⟩;cbv;refine si h (fun h=>?_) fun h=>?_
    ·cbv;refine⟨_,aq hM zr rfl,?_⟩;cbv;refine ah h fun Dk zR h=>⟨_,aq hM zR rfl,?_⟩;cbv;refine ah h fun k14 ahV h=>⟨_,cE hI hM ahV,?_⟩;cbv;refine ah h fun AB D9 h=>?_;refine ah h fun PQ ahT h=>⟨_,dV hI hM D9 ahT (by decide) rfl rfl,?_⟩;cbv;exact b8 (dm _ _ h)
    cbv;exact b8 (dm _ _ h)
   cbv;exact b8 (aZ _ _ h)
 cbv;refine lp h (fun(xP,D3)=>[(7,(vi D3))]) (fun(xP,D3)=>[(6,.box [(vs a0.head),(vi a0.aM),(.gs r (.c 6 2) (M.map (bu M r) xP)),(vi a0.result)])]) fun QA m3 kI st h=>?_;obtain⟨xP,D3⟩:=st;dsimp only[iy]at h;cbv;refine letE h fun n23 SU h=>⟨_,an hI hM SU,?_⟩;cbv;refine si h (fun h=>?_) fun h=>by cbv;cases h;exact fin
 cbv;refine ah h fun LK agU h=>⟨_,aq hM agU rfl,?_⟩;cbv;refine ah h fun k25 asB h=>⟨_,fun hp=>cE hI hM (aE asB hp.1),?_⟩;cbv;refine ah h fun x26 agT h=>⟨_,_,rfl,fun hp=>bj hM (aE agT hp.1),rfl,?_⟩;cbv;refine si h (fun h=>?_) fun h=>?_
 ·cbv;refine⟨_,cq (enc:=(bu M r)) (x:=(⟨5,LK.name,LK.num,LK.args⟩:aD)) hM (ao _) rfl,?_⟩;cbv;refine ah h fun re ahR h=>⟨_,ay (enc:=(bu M r)) hI hM ahR (fun _=>rfl) rfl (fun _=>rfl),?_⟩;cbv;exact b8 (kI _ _ h)
 cbv;refine⟨_,cq (enc:=(bu M r)) (x:=LK) hM (ao _) rfl,?_⟩;cbv;refine ah h fun v9 asf h=>⟨_,ay (enc:=(bu M r)) hI hM asf (fun _=>rfl) rfl (fun _=>rfl),?_⟩;cbv;exact b8 (kI _ _ h)
 include hI hM
theorem xY{a0:ag}{v:Bool}(h:nf I M n a0=some v):
  cj 114 [(.agg (aB M r a0))] (vb v) g nx:=by
 refine cK func114 avT r aae acW [] 17 ntmps114 [.tmp 2] hI fun call hc=>?_;cbv;refine lp h (fun z1=>[(3,(vi z1))]) (fun z1=>[]) fun kS m1 aZ z1 h=>?_;dsimp only[lZ]at h;cbv;refine letE h fun n2 pf h=>⟨_,an hI hM pf,?_⟩;cbv;refine si h (fun h=>?_) fun h=>by cbv;cases h;exact fin
 cbv;refine ah h fun x3 lG h=>⟨_,aq hM lG rfl,?_⟩;cbv;refine ah h fun y4 nI h=>⟨_,_,_,us hc (sF hI hM nI),?_⟩;cbv;refine si h (fun h=>by cbv;cases h;exact fin) fun h=>?_;cbv;exact b8 (aZ _ _ h)
 include hI hM
theorem GN{a0:aj}{v:Bool}(h:tz I M n a0=some v):
  cj 66 [(.agg (aA M r a0))] (vb v) g nx:=by
 refine cK func66 c66 r afC ajT [] 22 ntmps66 [.tmp 2] hI fun call hc=>?_;cbv;refine letE h fun n1 dw h=>⟨_,an hI hM dw,?_⟩;cbv;refine ah h fun x2 Q4 h=>⟨_,fun hp=>aq hM (aE Q4 hp.1) rfl,?_⟩;cbv;refine ah h fun x3 lG h=>⟨_,fun hp=>aq hM (aE lG hp.1) rfl,?_⟩;cbv;refine ah h fun y4 nI h=>⟨_,fun hp=>us hc (xY hI hM (aE nI hp.1)),?_⟩;cbv;cbv;cases h;exact fin
 include hI hM
theorem HR{a0:aj}{a1:aD}{a2:List aD}{a3:Bool}{v:Int}(h:r9 I M n a0 a1 a2 a3=some v):
  cj 132 [(.agg (aA M r a0)),(.agg (bu M r a1)),(.sl r (M.map (bu M r) a2)),(vb a3)] (vi v) g nx:=by
 refine cK func132 avG r ZW acE [] 76 ntmps132 [.tmp 8] hI fun call hc=>?_;cbv;refine si h (fun h=>?_) fun h=>?_
 ·cbv;refine ah h fun y1 c4 h=>⟨_,_,_,us hc (GN hI hM c4),?_⟩;cbv;exact si h (fun h=>by cbv;cases h;exact fin) fun h=>by cbv;cases h;exact fin
 cbv;refine ah h fun x2 Q4 h=>⟨_,aq hM Q4 rfl,?_⟩;cbv;refine ah h fun x3 lG h=>⟨_,fun hp=>aq hM (aE lG hp.1) rfl,?_⟩;cbv;refine ah h fun x4 ur h=>⟨_,fun hp=>aq hM (aE ur hp.1) rfl,?_⟩;cbv;refine si h (fun h=>by cbv;cases h;exact fin) fun h=>?_;cbv;refine ah h fun x5 sa h=>⟨_,aq hM sa rfl,?_⟩;cbv;refine ah h fun x6 ER h=>⟨_,aq hM ER rfl,?_⟩;cbv;refine lp h (fun z7=>[(10,(vi z7))]) (fun z7=>[]) fun kS m1 aZ z7 h=>?_;dsimp only[rv]at h;cbv;refine letE h fun n8 SQ h=>⟨_,an hI hM SQ,?_⟩;cbv;refine si h (fun h=>?_) fun h=>by cbv;cases h;exact fin
 cbv;refine ah h fun x9 SN h=>?_;refine ah h fun vE xB h=>?_;refine letE h fun xa zS h=>?_;refine ah h fun wO vQ h=>?_;refine ah h fun sP xz h=>?_;apply Exists.intro;refine⟨?_,_,rfl,?_⟩
 ·cbv;repeat' first|exact .inl rfl|exact trivial|(refine⟨_,aq hM SN rfl,?_⟩;cbv)|(refine⟨_,fun hp=>aq hM (aE xB hp.1) rfl,?_⟩;cbv)|(refine⟨_,an hI hM zS,?_⟩;cbv)|(refine⟨_,fun hp=>aq hM (aE vQ hp.1) rfl,?_⟩;cbv)|(refine⟨_,fun hp=>us hc (xY hI hM (aE xz hp.1)),?_⟩;cbv)|apply And.intro
  all_goals exact bw
 cbv;refine si h (fun h=>by cbv;cases h;exact fin) fun h=>?_;cbv;exact b8 (aZ _ _ h)
 include hI hM
theorem HQ{a0:aD}{a1:aD}{v:Bool}(h:vN I M n a0 a1=some v):
  cj 124 [(.agg (bu M r a0)),(.agg (bu M r a1))] (vb v) g nx:=by
 refine cK func124 avM r Z4 acM [] 52 ntmps124 [.tmp 4] hI fun call hc=>?_;cbv;refine letE h fun n1 dw h=>⟨_,an hI hM dw,?_⟩;cbv;refine letE h fun n2 pf h=>⟨_,an hI hM pf,?_⟩;cbv;refine si h (fun h=>by cbv;cases h;exact fin) fun h=>?_;cbv;refine lp h (fun z3=>[(5,(vi z3))]) (fun z3=>[]) fun kS m1 aZ z3 h=>?_;dsimp only[ru]at h;cbv;refine letE h fun n4 Pa h=>⟨_,an hI hM Pa,?_⟩;cbv;refine si h (fun h=>?_) fun h=>by cbv;cases h;exact fin
 cbv;refine ah h fun x5 sa h=>?_;refine ah h fun x6 ER h=>?_;apply Exists.intro;refine⟨?_,_,rfl,?_⟩
 ·cbv;repeat' first|exact .inl rfl|exact trivial|(refine⟨_,aq hM sa rfl,?_⟩;cbv)|(refine⟨_,aq hM ER rfl,?_⟩;cbv)|apply And.intro
  all_goals exact bw
 cbv;refine si h (fun h=>by cbv;cases h;exact fin) fun h=>?_;cbv;exact b8 (aZ _ _ h)
 include hI hM
theorem En{a0:ag}{v:ag}(h:rq I M n a0=some v):
  cj 103 [(.agg (aB M r a0))] (.agg (aB M r v)) g nx:=by
 refine cK func103 av1 r aao ac6 [] 73 ntmps103 [.cell 2 61] hI fun call hc=>?_;cbv;refine letE h fun n1 dw h=>⟨_,an hI hM dw,?_⟩;cbv;refine ah h fun l2 Ea h=>⟨_,_,eh (enc:=ax) hI hM Ea (by decide) rfl,?_⟩;cbv;refine lp h (fun(l3,l4,z5)=>[(5,(vi z5))]) (fun(l3,l4,z5)=>[(3,.box [(vs a0.head),(vi a0.aM),(.gs r (.c 3 2) (M.map (bu M r) l4)),(vi 0)]),(17,.arr 1 (M.map ax l3))]) fun kS m1 aZ st h=>?_;obtain⟨l3,l4,z5⟩:=st;dsimp only[ko]at h;cbv;refine letE h fun n6 Q5 h=>⟨_,an hI hM Q5,?_⟩;cbv;refine si h (fun h=>?_) fun h=>?_
 ·as_aux_lemma=>
   cbv;refine ah h fun x7 zr h=>⟨_,aq hM zr rfl,?_⟩;cbv;refine ah h fun u8 qu8 h=>?_;refine ah h fun y9 Mh h=>⟨fun _=>rfl,(.agg (bu M r y9)),g,nx,fun ρ=>by cbv;refine us hc ((mJ (s:=ρ) hI hM Mh).wk ?_);exact⟨aF _,(dG hM qu8),trivial⟩,?_⟩;cbv;refine lp h (fun(yS,H5)=>[(7,(vi yS)),(8,(vi H5))]) (fun _=>[]) fun Dc m2 dm st h=>?_;obtain⟨yS,H5⟩:=st;dsimp only[ct]at h;cbv;refine letE h fun Y5 VW h=>⟨_,an hI hM VW,?_⟩;cbv;refine si h (fun h=>?_) fun h=>?_
   ·cbv;refine ah h fun Dk zR h=>?_;refine ah h fun Lz J4 h=>?_;apply Exists.intro;refine⟨?_,_,rfl,?_⟩
    ·cbv;(repeat' first|exact .inl rfl|exact trivial|(refine⟨_,aq hM zR rfl,?_⟩;cbv)|(refine⟨_,_,_,us hc (HQ hI hM J4),?_⟩;cbv)|apply And.intro);all_goals exact bw
    cbv;refine si h (fun h=>?_) fun h=>?_
    ·cbv;exact b8 (dm _ _ h)
    cbv;exact b8 (dm _ _ h)
   cbv;refine si h (fun h=>?_) fun h=>?_
   ·cbv;refine letE h fun WY Pc h=>⟨_,an hI hM Pc,?_⟩;cbv;refine⟨_,cq (enc:=(bu M r)) (x:=y9) hM (ao _) rfl,?_⟩;cbv;refine ah h fun rJ We h=>⟨_,ay (enc:=(bu M r)) hI hM We (fun _=>rfl) rfl (fun _=>rfl),?_⟩;cbv;refine ah h fun k19 asE h=>⟨_,cE hI hM asE,?_⟩;cbv;refine ah h fun eT FR h=>?_;refine ah h fun xP Ki h=>⟨_,dV hI hM FR Ki (by decide) rfl rfl,?_⟩;cbv;exact b8 (aZ _ _ h)
   cbv;refine ah h fun k22 asC h=>⟨_,cE hI hM asC,?_⟩;cbv;refine ah h fun x23 arR h=>?_;refine ah h fun N2 asi h=>⟨_,dV hI hM arR asi (by decide) rfl rfl,?_⟩;cbv;exact b8 (aZ _ _ h)
 cbv;refine ah h fun k28 asA h=>⟨_,cE hI hM asA,?_⟩;cbv;refine ah h fun rF O1 h=>⟨_,_,rfl,bj hM O1,rfl,?_⟩;cbv;cbv;cases h;exact fin
 include hI hM
theorem GO{a0:ai}{v:List Int}(h:tA I M n a0=some v):
  cj 121 [(.agg (bd M r a0))] (.ar 5 1 (M.map ax v)) g nx:=by
 refine cK func121 avO r Z7 acP [] 53 ntmps121 [.cell 2 140] hI fun call hc=>?_;cbv;refine letE h fun l1 Kk h=>⟨_,⟨rfl,eR (enc:=ax) hI hM Kk rfl⟩,?_⟩;cbv;refine letE h fun l2 Ea h=>⟨_,⟨rfl,eR (enc:=ax) hI hM Ea rfl⟩,?_⟩;cbv;refine lp h (fun(l3,z4)=>[(4,(vi z4))]) (fun(l3,z4)=>[(3,.arr 1 (M.map ax l3))]) fun kS m1 aZ st h=>?_;obtain⟨l3,z4⟩:=st;dsimp only[me]at h;cbv;refine letE h fun n5 SS h=>⟨_,an hI hM SS,?_⟩;cbv;refine si h (fun h=>?_) fun h=>?_
 ·as_aux_lemma=>
   cbv;refine lp h (fun(l6,z7)=>[(5,(vi z7)),(12,.any)]) (fun(l6,z7)=>[(3,.arr 1 (M.map ax l6))]) fun Dc m2 dm st h=>?_;obtain⟨l6,z7⟩:=st;dsimp only[mc]at h;cbv;refine ah h fun x8 Q3 h=>⟨_,aq hM Q3 rfl,?_⟩;cbv;refine letE h fun n9 qn9 h=>⟨_,an hI hM qn9,?_⟩;cbv;refine si h (fun h=>?_) fun h=>?_
   ·as_aux_lemma=>
     cbv;refine⟨_,aq hM Q3 rfl,?_⟩;cbv;refine ah h fun vE xB h=>⟨_,aq hM xB rfl,?_⟩;cbv;refine lp h (fun(AD,EH)=>[(7,(vi EH))]) (fun(AD,EH)=>[(3,.arr 1 (M.map ax AD))]) fun QA m3 kI st h=>?_;obtain⟨AD,EH⟩:=st;dsimp only[jD]at h;cbv;refine letE h fun n13 VT h=>⟨_,an hI hM VT,?_⟩;cbv;refine si h (fun h=>?_) fun h=>?_
     ·cbv;refine ah h fun wN FT h=>⟨_,aq hM FT rfl,?_⟩;cbv;refine ah h fun Y8 Km h=>?_
      (first|refine⟨_,⟨rfl,rfl,aL hI Km⟩,?_⟩|refine⟨_,aL hI Km,?_⟩)
      cbv;refine ah h fun UB Mj h=>⟨_,_,rfl,bj hM Mj,rfl,?_⟩;cbv
      (first|refine⟨_,⟨rfl,rfl,aL hI Km⟩,?_⟩|refine⟨_,aL hI Km,?_⟩)
      cbv;refine ah h fun ua Po h=>⟨_,dV hI hM Mj Po (by decide) rfl rfl,?_⟩;cbv;exact b8 (kI _ _ h)
     cbv;exact b8 (dm _ _ h)
   cbv;exact b8 (aZ _ _ h)
 cbv;refine ah h fun YY vR h=>?_
 (first|refine⟨⟨rfl,aQ hI hM vR,rfl⟩,?_⟩|refine⟨⟨aQ hI hM vR,trivial⟩,?_⟩|refine⟨aQ hI hM vR,?_⟩)
 cbv;refine ah h fun UO Cp h=>?_
 (first|refine⟨⟨rfl,rfl,rfl,aQ hI hM Cp,rfl,(by have hq:=cg (enc:=ax) hM (fun _=>rfl) l3;rw[cR.eq_def]at hq;exact hq)⟩,?_⟩|refine⟨⟨aQ hI hM Cp,(by have hq:=cg (enc:=ax) hM (fun _=>rfl) l3;rw[cR.eq_def]at hq;exact hq)⟩,?_⟩)
 cbv;refine ah h fun u26 ar0 h=>?_;obtain rfl:=o5 h;cbv;all_goals(repeat' apply And.intro)
 all_goals first|trivial|rfl|exact(aK hM)|exact aQ hI hM ar0
 include hI hM
theorem zB{a0:ai}{v:Int}(h:mQ I M n a0=some v):
  cj 76 [(.agg (bd M r a0))] (vi v) g nx:=by
 refine cK func76 c76 r afu ajL [] 20 ntmps76 [.tmp 2] hI fun call hc=>?_;cbv;refine ah h fun y1 c4 h=>⟨_,_,_,us hc (GO hI hM c4),?_⟩;cbv;refine letE h fun l2 Ea h=>⟨_,⟨rfl,eR (enc:=ax) hI hM Ea rfl⟩,?_⟩;cbv;refine ah h fun u3 qu3 h=>?_
 (first|refine⟨⟨rfl,rfl,rfl,aQ hI hM qu3,rfl,(by have hq:=cg (enc:=ax) hM (fun _=>rfl) y1;rw[cR.eq_def]at hq;exact hq)⟩,?_⟩|refine⟨⟨aQ hI hM qu3,(by have hq:=cg (enc:=ax) hM (fun _=>rfl) y1;rw[cR.eq_def]at hq;exact hq)⟩,?_⟩)
 cbv;refine ah h fun k4 qk4 h=>?_
 (first|refine⟨_,⟨rfl,rfl,aL hI qk4⟩,?_⟩|refine⟨_,aL hI qk4,?_⟩)
 cbv;refine ah h fun x5 sa h=>⟨_,_,rfl,bj hM sa,rfl,?_⟩;cbv;refine ah h fun k6 qk6 h=>?_
 (first|refine⟨_,⟨rfl,rfl,aL hI qk6⟩,?_⟩|refine⟨_,aL hI qk6,?_⟩)
 cbv;refine ah h fun x7 zr h=>⟨_,_,rfl,bj hM zr,rfl,?_⟩;cbv;refine ah h fun k8 qk8 h=>?_
 (first|refine⟨_,⟨rfl,rfl,aL hI qk8⟩,?_⟩|refine⟨_,aL hI qk8,?_⟩)
 cbv;refine ah h fun x9 SN h=>⟨_,_,rfl,bj hM SN,rfl,?_⟩;cbv;refine ah h fun Xh Ps h=>?_
 (first|refine⟨_,⟨rfl,rfl,aL hI Ps⟩,?_⟩|refine⟨_,aL hI Ps,?_⟩)
 cbv;refine ah h fun Fg xA h=>⟨_,_,rfl,bj hM xA,rfl,?_⟩;cbv;refine ah h fun k12 Wz h=>?_
 (first|refine⟨_,⟨rfl,rfl,aL hI Wz⟩,?_⟩|refine⟨_,aL hI Wz,?_⟩)
 cbv;refine ah h fun Dk zR h=>⟨_,_,rfl,bj hM zR,rfl,?_⟩;cbv;cbv;cases h;exact fin
 include hI hM
theorem HS{a0:ai}{a1:ai}{v:Int}(h:zP I M n a0 a1=some v):
  cj 75 [(.agg (bd M r a0)),(.agg (bd M r a1))] (vi v) g nx:=by
 refine cK func75 c75 r afv ajM [] 13 ntmps75 [.tmp 4] hI fun call hc=>?_;cbv;refine ah h fun y1 c4 h=>⟨_,_,_,us hc (sG hI hM c4),?_⟩;cbv;refine si h (fun h=>by cbv;cases h;exact fin) fun h=>?_;cbv;refine ah h fun y2 sS h=>⟨_,_,_,us hc (sG hI hM sS),?_⟩;cbv;cbv;cases h;exact fin
 include hI hM
theorem vo{a0:ai}{a1:ai}{v:Bool×Int}(h:ma I M n a0 a1=some v):
  cj 22 [(.agg (bd M r a0)),(.agg (bd M r a1))] (.gY [(vb v.1),(vi v.2)]) g nx:=by
 refine cK func22 c22 r af7 ako [] 61 ntmps22 [.tmp 4,.tmp 5] hI fun call hc=>?_;cbv;refine ah h fun y1 c4 h=>⟨_,_,_,us hc (HS hI hM c4),?_⟩;cbv;refine si h (fun h=>by cbv;cases h;exact fin) fun h=>?_;cbv;refine letE h fun n2 pf h=>⟨_,an hI hM pf,?_⟩;cbv;refine letE h fun n3 qn3 h=>⟨_,an hI hM qn3,?_⟩;cbv;refine si h (fun h=>by cbv;cases h;exact fin) fun h=>?_;cbv;refine lp h (fun z4=>[(7,(vi z4))]) (fun z4=>[]) fun kS m1 aZ z4 h=>?_;dsimp only[ju]at h;cbv;refine letE h fun n5 SS h=>⟨_,an hI hM SS,?_⟩;cbv;refine si h (fun h=>?_) fun h=>?_
 ·cbv;refine ah h fun x6 ER h=>?_;refine ah h fun x7 zr h=>?_;refine ah h fun x8 Q3 h=>?_;refine ah h fun x9 SN h=>?_;apply Exists.intro;refine⟨?_,_,rfl,?_⟩
  ·cbv;(repeat' first|exact .inl rfl|exact trivial|(refine⟨_,aq hM ER rfl,?_⟩;cbv)|(refine⟨_,aq hM zr rfl,?_⟩;cbv)|(refine⟨_,fun hp=>aq hM (aE Q3 hp.1) rfl,?_⟩;cbv)|(refine⟨_,fun hp=>aq hM (aE SN hp.1) rfl,?_⟩;cbv)|apply And.intro);all_goals exact bw
  cbv;refine si h (fun h=>by cbv;cases h;exact fin) fun h=>?_;cbv;exact b8 (aZ _ _ h)
 cbv;refine ah h fun wL zQ h=>?_;refine ah h fun EI FO h=>?_;apply Exists.intro;refine⟨?_,_,rfl,?_⟩
 ·cbv;repeat' first|exact .inl rfl|exact trivial|(refine⟨_,_,_,us hc (zB hI hM zQ),?_⟩;cbv)|(refine⟨_,_,_,us hc (zB hI hM FO),?_⟩;cbv)|apply And.intro
  all_goals exact bw
 cbv;cases h;exact fin
end Ab
