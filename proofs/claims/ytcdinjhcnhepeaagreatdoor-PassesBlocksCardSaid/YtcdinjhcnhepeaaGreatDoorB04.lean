/- PassesBlocks holds of all cores and names (no condition): a part of the proof: an abstract interpreter of the code that is proved sound, models of the functions, and laws of these models. -/
import Derived.Test.YtcdinjhcnhepeaaGreatDoorB03
import Derived.Test.YtcdinjhcnhepeaaGreatDoorB02
set_option linter.unusedVariables false
set_option linter.unusedSimpArgs false
set_option linter.unusedSectionVars false
namespace Ab
open Go
set_option maxRecDepth 10000
theorem Fi{α:Type}{n i:Nat}{g:Nat→α}{v:α}:((List.range n).map g).set i v=(List.range n).map fun a=>bif decide (a=i)then v else g a:=by
 apply List.ext_getElem (by simp);intro a h1 h2;rw[List.getElem_set];simp only[List.getElem_map,List.getElem_range];by_cases e:i=a
 ·subst e;simp
 ·rw[if_neg e,bT (by omega)];rfl
theorem wm{α:Type}{n i:Nat}{g:Nat→α}(h:i<n):((List.range n).map g)[i]? =some (g i):=by
 simp[h]
def arB(c:af)(i j:Nat):Bool:=decide ((bL c i).aG=(bL c j).aG)&&decide ((bL c i).ae.length=(bL c j).ae.length)
def xY(c:af)(i j:Nat):List Bool:=(List.range c.ab.length).map fun b=>bif decide (b<j)then arB c i b else false
def Lx(c:af)(i:Nat):List Bool:=(List.range c.ab.length).map (arB c i)
def AG(c:af)(i:Nat):List (List Bool):=(List.range c.ab.length).map fun a=>bif decide (a<i)then Lx c a else []
def wL(c:af)(i j:Nat):List (List Bool):=(List.range c.ab.length).map fun a=>bif decide (a=i)then xY c i j else bif decide (a<i)then Lx c a else []
theorem afQ(c:af)(i:Nat):xY c i 0=List.replicate c.ab.length false:=by
 apply List.ext_getElem (by simp[xY]);intro a h1 h2;simp only[xY,List.getElem_map,List.getElem_range,List.getElem_replicate];rw[bT (Nat.not_lt_zero _)];rfl
theorem Us{c:af}{i j:Nat}:(xY c i j).set j (arB c i j)=xY c i (j+1):=by
 unfold xY;rw[Fi];refine List.map_congr_left fun b _=>?_;by_cases e:b=j
 ·subst e;simp
 ·rw[bT e,aM];by_cases h:b<j
  ·rw[bH h,bH (by omega)]
  ·rw[bT h,bT (by omega)]
theorem Ut{c:af}{i:Nat}:xY c i c.ab.length=Lx c i:=by
 unfold xY Lx;refine List.map_congr_left fun b hb=>?_;rw[bH (by simpa using hb)];rfl
theorem Ww{c:af}{i:Nat}:(AG c i).set i (xY c i 0)=wL c i 0:=by unfold AG wL;rw[Fi]
theorem Wu{c:af}{i j:Nat}:(wL c i j).set i (xY c i (j+1))=wL c i (j+1):=by
 unfold wL;rw[Fi];refine List.map_congr_left fun a _=>?_;cases decide (a=i)<;>rfl
theorem Wv{c:af}{i:Nat}:wL c i c.ab.length=AG c (i+1):=by
 unfold AG wL;refine List.map_congr_left fun a _=>?_;by_cases e:a=i
 ·subst e;rw[bH (show a=a from rfl),bH (show a<a+1 by omega),Ut];rfl
 ·rw[bT e,aM];by_cases h:a<i
  ·rw[bH h,bH (by omega)]
  ·rw[bT h,bT (by omega)]
theorem ahQ(c:af):AG c 0=List.replicate c.ab.length []:=by
 apply List.ext_getElem (by simp[AG]);intro a h1 h2;simp only[AG,List.getElem_map,List.getElem_range,List.getElem_replicate];rw[bT (Nat.not_lt_zero _)];rfl
def J0(c:af):List (List Bool):=(List.range c.ab.length).map (Lx c)
theorem Wx(c:af):AG c c.ab.length=J0 c:=by
 unfold AG J0;refine List.map_congr_left fun a ha=>?_;rw[bH (by simpa using ha)];rfl
theorem alJ{c:af}{i k:Nat}:sR (J0 c) i k=(decide (i<c.ab.length)&&decide (k<c.ab.length)&&arB c i k):=by
 unfold sR J0;rw[List.getD_eq_getElem?_getD,List.getD_eq_getElem?_getD];by_cases hi:i<c.ab.length
 ·rw[wm hi,Option.getD_some];unfold Lx;by_cases hk:k<c.ab.length
  ·rw[wm hk,bH hi,bH hk];rfl
  ·rw[List.getElem?_eq_none (by simp;omega),bT hk];simp
 ·rw[List.getElem?_eq_none (l:=(List.range c.ab.length).map (Lx c)) (by simp;omega),bT hi];simp
theorem Wy(c:af):xu c (J0 c):=by
 refine⟨⟨by simp[J0],fun r hr=>?_⟩,fun i k h=>?_,fun S hS i k h=>?_⟩
 ·obtain⟨i,_,rfl⟩:=List.mem_map.1 hr;simp[Lx]
 ·rw[alJ]at h;simp only[arB,Bool.and_eq_true,decide_eq_true_eq]at h;exact h.2
 ·obtain⟨hi,hk,hm⟩:=hS i k h;obtain⟨h1,h2⟩:=qW.1 hm;rw[alJ];have hl:(bL c i).ae.length=(bL c k).ae.length:=by
   apply Decidable.byContradiction;intro ct;rw[xt ct]at h2;cases h2
  simp[hi,hk,arB,h1,hl]
section
variable{N:Nat}(hN:1000<N)
variable{c:af}(rt:Rt c){l2:List (List Bool)}(GX:l2.length=c.ab.length)
 include hN rt GX
theorem cl2{i:Nat}(hi:i<c.ab.length)(K:List (List Bool)→Option (List Int)): ∀(k j m:Nat),j+k=c.ab.length→k<m→
  iter (eL al .al N c l2 (au c.ab) (i:Int) fun(l,_)=>K l) m (wL c i j,(j:Int))=K (wL c i c.ab.length)
 |k,j,0,_,h=>absurd h (Nat.not_lt_zero _)
 |0,j,m+1,he,_=>by
  have:j=c.ab.length:=by omega
  subst this;show eL al .al N c l2 (au c.ab) (i:Int) _ (iter _ m) (wL c i _,_)=_;simp only[eL,cX,kb];rw[bT (by omega)];rfl
 |k+1,j,m+1,he,hm=>by
  have qq:=rt.dL.some.2
  have hj:j<c.ab.length:=by omega
  have g1:sj (wL c i j) i=some (xY c i j):=AW (by unfold gK wL;rw[wm hi];simp) (by intro e;have:=congrArg List.length e;simp[xY]at this;rw[this]at hi;simp at hi)
  have g2: ∀v,v=arB c i j→gsM (wL c i j) i j v=some (wL c i (j+1)):=fun v hv=>by
   rw[Xq (r:=xY c i j) (by unfold gK wL;rw[wm hi];simp) (by simp[xY];exact hj),hv,Us,Wu]
  have hv: ∀a b:Bool,(a=true→b=decide ((bL c i).ae.length=(bL c j).ae.length))→a=decide ((bL c i).aG=(bL c j).aG)→(bif a then b else false)=arB c i j:=fun a b h1 h2=>by
   unfold arB;rw[←h2];cases a with
   |true=>rw[h1 rfl];rfl
   |false=>rfl
  show eL al .al N c l2 (au c.ab) (i:Int) _ (iter _ m) (wL c i j,_)=_;simp only[eL,cX,kb,OJ,uH,yF,cD,bZ];rw[bH (by omega),aE,fT (by omega),aw,g1,aw,wY hi,aw,wY hj,aw,
   GZ (y:=bL c i) fun _=>rfl,aw,aw,
   GZ (y:=bL c j) fun _=>rfl,aw,aw,fT (by simp[xY];exact hj),aw]
  rw[g2 _ (hv _ _ (fun ha=>by rw[ha];exact abK _ _) rfl),aw,kA (by omega)];exact cl2 hi K k (j+1) m (by omega) (by omega)
theorem cl1(K:List (List Bool)→Option (List Int)): ∀(k i m:Nat),i+k=c.ab.length→k<m→
  iter (dB al .al N c l2 (au c.ab) fun(l,_)=>K l) m (AG c i,(i:Int))=K (J0 c)
 |k,i,0,_,h=>absurd h (Nat.not_lt_zero _)
 |0,i,m+1,he,_=>by
  have:i=c.ab.length:=by omega
  subst this;show dB al .al N c l2 (au c.ab) _ (iter _ m) (AG c _,_)=_;simp only[dB,cX,kb];rw[bT (by omega),Wx];rfl
 |k+1,i,m+1,he,hm=>by
  have qq:=rt.dL.some.2
  have hi:i<c.ab.length:=by omega
  have g1:Ge (AG c i) i (List.replicate c.ab.length false)=some (wL c i 0):=by
   rw[Xu (by unfold gK AG;rw[wm hi];simp) (by intro e;have:=congrArg List.length e;simp at this;rw[this]at hi;simp at hi),←afQ c i,Ww]
  show dB al .al N c l2 (au c.ab) _ (iter _ m) (AG c i,_)=_;simp only[dB,cX,kb,OJ,uH,yF];rw[bH (by omega),aE,OV (by omega) (by omega),aw,fT (by omega),aw,AO rfl,aw,g1,aw,kA (by omega)];refine(cl2 hN rt GX hi (fun l=>iter (dB al .al N c l2 (au c.ab) fun(l,_)=>K l) m (l,((i+1:Nat):Int))) c.ab.length 0 N (by omega) (by omega)).trans ?_;rw[Wv];exact cl1 K k (i+1) m (by omega) (by omega)
end
end Ab
namespace Ab
open Go
set_option maxRecDepth 10000
theorem Pu{c:af}(qq:c.ab.length≤12){f:List Int}(h:M8 c f){so:List (List Bool)}(hs:acX c so){i:Nat}(hi:i<c.ab.length): ∃j:Nat,f.getD i 0=j∧j≤i∧sR so i j=true∧ ∀k,k<j→sR so i k=false:=by
 obtain⟨j,h1,h2,h3,h4⟩:=wN (IB c f) i;have e:f.getD i 0=j:=by
  rw[←h.fix,fW qq,bH hi];exact h1
 have hb:=M8.bis qq h
 refine⟨j,e,h2,?_,fun k hk=>?_⟩
 ·apply hs.inv.max _ hb;simp only[cm,Bool.and_eq_true]at h3;rw[bH hi,bH (show j<c.ab.length by omega),(Ym f).symm _ _ h3.1];rfl
 ·cases hsk:sR so i k with
  |false=>rfl
  |true=>
   have hR:Bk f k i=true:=by
    unfold Bk;exact bH (h.inv.max _ hs.bis i k hsk).symm
   have hm:=(hb k i (by show(decide (k<c.ab.length)&&decide (i<c.ab.length)&&Bk f k i)=true;rw[bH hi,bH (show k<c.ab.length by omega),hR];rfl)).2.2
   have:cm c f k i=true:=by
    unfold cm;rw[hR,Bool.true_and];exact J1 (fun a b Bw=>by simp only[Bool.and_eq_true]at Bw;exact Bw.2) hm
   have:=h4 k this
   omega
section
variable{N:Nat}(hN:1000<N)
variable{c:af}(rt:Rt c){l2:List (List Bool)}(GX:l2.length=c.ab.length)
 include hN rt GX
theorem cl8{so:List (List Bool)}(hs:Hr c.ab.length so){i j:Nat}(hi:i<c.ab.length)(hj:j<c.ab.length)(h1:sR so i j=true)(h2: ∀k,k<j→sR so i k=false)(K:Int→Option (List Int)): ∀(k a m:Nat),a+k=j→k<m→
  iter (eJ al .al N l2 so (i:Int) K) m (a:Int)=K (j:Int)
 |k,a,0,_,h=>absurd h (Nat.not_lt_zero _)
 |0,a,m+1,he,_=>by
  have:a=j:=by omega
  subst this;show eJ al .al N l2 so (i:Int) K (iter _ m) (a:Int)=_;simp only[eJ,OJ,cw];rw[fT (by omega),aw,hs.grow hi,aw,fT (by rw[(hs.row hi).2];exact hj),aw,hs.gg hi hj,aw,h1];rfl
 |k+1,a,m+1,he,hm=>by
  have qq:=rt.dL.some.2
  have ha:a<c.ab.length:=by omega
  show eJ al .al N l2 so (i:Int) K (iter _ m) (a:Int)=_;simp only[eJ,OJ,cw,uH,yF];rw[fT (by omega),aw,hs.grow hi,aw,fT (by rw[(hs.row hi).2];exact ha),aw,hs.gg hi ha,aw,h2 a (by omega)];simp only[Bool.not_false,aE];rw[kA (by omega)];exact cl8 hs hi hj h1 h2 K k (a+1) m (by omega) (by omega)
theorem cl7{f:List Int}(hf:M8 c f){so:List (List Bool)}(hs:acX c so)(K:List Int→Option (List Int)): ∀(k i m:Nat),i+k=c.ab.length→k<m→
  iter (cH al .al N l2 so (au c.ab) fun(l,_)=>K l) m (f.take i,(i:Int))=K (f.take c.ab.length)
 |k,i,0,_,h=>absurd h (Nat.not_lt_zero _)
 |0,i,m+1,he,_=>by
  have:i=c.ab.length:=by omega
  subst this;show cH al .al N l2 so (au c.ab) _ (iter _ m) (f.take _,_)=_;simp only[cH,cX,kb];rw[bT (by omega)];rfl
 |k+1,i,m+1,he,hm=>by
  have qq:=rt.dL.some.2
  have hi:i<c.ab.length:=by omega
  have hlen:=hf.inv.len
  obtain⟨j,h1,h2,h3,h4⟩:=Pu qq hf hs hi;show cH al .al N l2 so (au c.ab) _ (iter _ m) (f.take i,(i:Int))=_;simp only[cH,cX,kb,uH,yF];rw[bH (by omega),aE];refine(cl8 hN rt GX hs.inv.NT hi (show j<c.ab.length by omega) h3 h4 _ j 0 N (by omega) (by omega)).trans ?_;have e:f.take i++[(j:Int)]=f.take (i+1):=by
   rw[List.take_add_one,uU (d:=(0:Int)) (by omega),h1];rfl
  show((aQ 8 (f.take i) (j:Int)).bind fun YM=>iter (cH al .al N l2 so (au c.ab) fun(l,_)=>K l) m (YM,IntKind.wrap .i64 ((i:Int)+1)))=_;rw[b8 (by omega) (by simp;omega),aw,e,kA (by omega)];exact cl7 hf hs K k (i+1) m (by omega) (by omega)
end
section
variable{N:Nat}(hN:1000<N)
variable{c:af}(rt:Rt c)
 include hN rt
theorem Hc{f:List Int}(hf:M8 c f):jq al .al N c=some (f.take c.ab.length):=by
 have qq:=rt.dL.some.2
 unfold jq;rw[aw,kb,OV (by omega) (by omega),aw];have GX:(List.replicate c.ab.length ([]:List Bool)).length=c.ab.length:=by simp
 have e0:=ahQ c
 have hc:=acG c.ab.length (J0 c)
 have h144:c.ab.length*c.ab.length≤12*12:=Nat.mul_le_mul qq qq
 obtain⟨so,hs,hl⟩:=cl3 hN rt GX (fun(O5,_)=>iter (cH al .al N (List.replicate c.ab.length []) O5 (au c.ab) fun(l69,_)=>some l69) N ([],0)) N (J0 c) (Wy c) (by omega);have h1:=cl1 hN rt GX (fun vY=>iter (eK al .al N c (List.replicate c.ab.length []) (au c.ab) (fun(O5,_)=>iter (cH al .al N (List.replicate c.ab.length []) O5 (au c.ab) fun(l69,_)=>some l69) N ([],0))) N (vY,true)) c.ab.length 0 N (by omega) (by omega)
 rw[e0]at h1;refine h1.trans (hl.trans ?_);have:=cl7 hN rt GX hf hs (fun l=>some l) c.ab.length 0 N (by omega) (by omega)
 exact this
end
end Ab
namespace Ab
open Go
set_option maxRecDepth 10000
section
variable{n:Nat}(hn:100<n)
 include hn
theorem V0{x:ah}(hx:ua x)(k:List aH×List Int×Int→Option af):
  iter (fh al .al n (au x.ops) x k) n ([],[],0)=k (x.ops,tF x.ops.length,(x.ops.length:Int)):=by
 have hlen:=hx.len
 have:=bJ (body:=fh al .al n (au x.ops) x k) (mk:=fun(a:List aH) i=>(a,tF i,(i:Int))) (fun a r i=>k (a++r,tF x.ops.length,(x.ops.length:Int))) (fun a i=>a.length=i) x.ops (by omega) ?_ ?_ n (by omega) [] rfl
 ·simpa[tF]using this
 ·rintro self out i o r hp hd hi e1 e2 e3 ih
  have ho:x.ops[i]? =some o:=by rw[←dG];exact e1
  have hm:o∈x.ops:=jK ho
  have dt: ∀a∈o.args,0≤a∧a<(tF i).length:=fun a ha=>by rw[tE];exact hx.args i o ho a ha
  have hoa:=hx.ar o hm
  have hs:=Lo hn (hd:=x.head) (kd:=x.aN) (z:=0) (ops:=out) dt hoa
  rw[HI (fun a ha=>hx.args i o ho a ha)]at hs;have ME:=PK (y:=o.args) (l:=out) (k:=o.kind) (z:=o.num) (nm:=o.name) (by omega) (by omega)
  simp only[aw]at ME;have hil:=tE i
  simp only[fh,e2,aE,e1,aw,hs];rw[ME];simp only[aw];rw[b8 (by omega) (by omega),aw,aw,e3,hp,←B9];have:=ih (out++[o]) (by simp[hp])
  rw[this];simp
 ·rintro self out hp e
  simp only[fh,e,aM];simp
theorem aaw{c:af}(hc:yj c)(hg:Bm c){i:Nat}{b:ai}{rb:List ai}(hb:c.ab.drop i=b::rb){l9:List ai}(hl9:l9.length=c.ab.length)(k:List ai×Int→Option af)(R:Option af)
  (hk:k (fU (fun x=>x) c.ab (i+1) 0,(b.ae.length:Int))=R):iter (fk al .al n l9 (au b.ae) b (i:Int) k) n (fU (fun x=>x) c.ab i 0,0)=R:=by
 have Kd:=lT hb
 have Xj:=hc.br b Kd
 have hi:i<c.ab.length:=(bh.1 (Ba hb)).1
 refine bJ (body:=fk al .al n l9 (au b.ae) b (i:Int) k) (mk:=fun(a:List ai) j=>(a,(j:Int))) (fun _ _ _=>R) (fun a j=>a=fU (fun x=>x) c.ab i j) b.ae (by omega) ?_ ?_ n (by omega) _ rfl
 ·rintro self L j x r hp hd hj e1 e2 e3 ih
  subst hp;have hx:=hg.x hc Kd (lT hd)
  have ya:=hx.res
  have hg0: ∀{a b:Int},gK [a,b] 0=some a:=rfl
  simp only[fk,e2,aE,e1,aw,show lx 2 (List.replicate 2 (0:Int))=some ()from rfl,show∀a b:Int,lx 2 [a,b]=some ()from fun _ _=>rfl];rw[V0 hn hx];have hr:gI (tF x.ops.length) x.result=some x.result:=by
   rw[uV ya.1 (by rw[tE];exact ya.2),FX ya.1 ya.2]
  have nQ:Md.al.ln l9=c.ab.length:=hl9
  simp only[hr,aw,nQ,fT hi,GD hb,show gN 2 0=some 0 from rfl,hg0];rw[b8 (by omega) (by simp;omega),aw];have:=GC (F:=fun x=>x) hb hd
  rw[this,aw,e3];exact ih _ rfl
 ·rintro self L hp e
  subst hp;simp only[fk,e,aM];rw[Dm hb];exact hk
theorem aaO(bs:List ai):bs.map (fH fun x=>x)=bs:=by
 conv=>rhs;rw[←List.map_id bs]
 exact List.map_congr_left fun b _=>by unfold fH;simp
theorem aax{c:af}(hc:yj c)(hg:Bm c){l9:List ai}(hl9:l9.length=c.ab.length)(k:List ai×Int→Option af)(R:Option af)
  (hk:k (c.ab,(c.ab.length:Int))=R):iter (dR al .al n c l9 (au c.ab) k) n (c.ab.map bare,0)=R:=by
 have Y4:=hc.bl
 refine(bJ (body:=dR al .al n c l9 (au c.ab) k) (mk:=fun(a:List ai) j=>(a,(j:Int))) (fun _ _ _=>R) (fun a j=>a=fU (fun x=>x) c.ab j 0) c.ab (by omega) ?_ ?_ n (by omega) _ MU.symm)
 ·rintro self L i b r hp hd hi e1 e2 e3 ih
  subst hp;simp only[dR,e2,aE,e1,aw];refine aaw hn hc hg hd hl9 _ R ?_;dsimp only;rw[e3];exact ih _ rfl
 ·rintro self L hp e
  subst hp;simp only[dR,e,aM];rw[GF,aaO hn];exact hk
theorem aay{c:af}(Y4:c.ab.length≤16)(k:List ai×Int→Option af){b:ai}{r:List ai}(hb:c.ab=b::r):iter (fm al .al n c (au c.ab) k) n ([bare b],1)=k (c.ab.map bare,(c.ab.length:Int)):=by
 have:=Ih (body:=fm al .al n c (au c.ab) k) (mk:=fun(a:List ai) j=>(a,(j:Int))) (fun a r _=>k (a++r.map bare,(c.ab.length:Int))) (fun a i=>a.length=i) c.ab (by omega) ?_ ?_ n 1 (by rw[hb];simp) (by omega) [bare b] rfl
 ·refine this.trans ?_;rw[hb];rfl
 ·intro self l i x r hp hd hi e1 e2 e3 ih;simp only[fm,e2,aE,e1,aw];rw[b8 (by omega) (by omega),aw,e3,ih _ (by simp[hp])];simp[bare]
 ·intro self l hp e;simp only[fm,e,aM];simp
theorem ahC{c:af}(hc:yj c)(h0:bS c=0):oe al .al n c=some c:=by
 unfold oe qM;have hg:=Gy h0
 have Y4:=hc.bl
 obtain⟨b,r,hb⟩: ∃b r,c.ab=b::r:=by
  cases h:c.ab with
  |nil=>have:=hg.some.1;rw[h]at this;simp at this
  |cons b r=>exact⟨b,r,rfl⟩
 have h1:al.bg 0 (au c.ab)=true:=by show decide ((0:Int)<c.ab.length)=true;rw[hb];simp
 have h2:gI c.ab 0=some b:=by rw[hb];rfl
 have hw:al.wrap .i64 (al.add 0 1)=1:=by show IntKind.wrap .i64 1=1;rw[jB (by omega)]
 rw[aw,h1,aE,h2,aw,b8 (by omega) (by simp),aw,hw];have:=(aay hn Y4 (fun(l8,z9)=>
  (some (au c.ab)).bind fun BW=>
  iter (dR al .al n c l8 BW (fun(Sr,z54)=>
   (eQ (Md.al.ln l8) Sr).bind fun u55=>
   some (⟨Sr⟩:af))) n (l8,0)) hb)
 refine(congrArg (fun q=>Option.bind q some) this).trans ?_;dsimp only;rw[aw];rw[aax hn hc hg (by simp) _ (some c) (by dsimp only;rw[AO (by simp[Md.al]),aw])];rfl
end
end Ab
namespace Ab
open Go
set_option maxRecDepth 10000
def qS(c:af)(f:List Int)(o:aH):aH:=bif aL o then⟨o.kind,(bL c (f.getD (find c o.name).toNat 0).toNat).name,o.num,o.args⟩else o
def tu(c:af)(f:List Int)(x:ah):ah:=⟨x.head,x.aN,x.ops.map (qS c f),x.result⟩
def oV(f:List Int):Nat→List ai→List ai
 |_,[]=>[]
 |i,b::r=>bif decide (f.getD i 0=(i:Int))then b::oV f (i+1) r else oV f (i+1) r
def BX(c:af)(f:List Int):af:=⟨oV f 0 (c.ab.map (fH (tu c f)))⟩
theorem Ie(f:List Int): ∀(i:Nat) (l:List ai),(oV f i l).length≤l.length
 |_,[]=>Nat.le_refl _
 |i,b::r=>by
  have:=Ie f (i+1) r
  unfold oV;cases decide (f.getD i 0=(i:Int))<;>simp<;>omega
theorem Q3{c:af}{f:List Int}(h:yk c f){k:Nat}(hk:k<c.ab.length): ∃j:Nat,f.getD k 0=j∧j<c.ab.length∧gI c.ab (f.getD k 0)=some (bL c (f.getD k 0).toNat):=by
 obtain⟨j,h1,h2,_⟩:=h.lo k hk;refine⟨j,h1,by omega,?_⟩;rw[h1,Int.toNat_natCast];exact wY (by omega)
section
variable{n:Nat}(hn:100<n)
 include hn
theorem IC(o:aH):ei al .al n o=some (aL o):=by
 unfold ei aL;simp only[bZ,cD];cases decide (o.kind=4)<;>rfl
theorem CS(o:aH):eh al .al n o=some (aL o):=by
 unfold eh aL;simp only[bZ,cD];cases decide (o.kind=4)<;>rfl
theorem Ws{c:af}(rt:Rt c)(h0:bS c=0){f:List Int}(hf:yk c f){b:ai}(hb:b∈c.ab){x:ah}(SH:x∈b.ae)(k:List aH×List Int×Int→Option (af×Int)):
  iter (gX al .al n c (au x.ops) x f k) n ([],[],0)=k (x.ops.map (qS c f),tF x.ops.length,(x.ops.length:Int)):=by
 have hx:=rt.dL.x rt.ck hb SH
 have qq:=rt.dL.some.2
 have hlen:=hx.len
 have:=bJ (body:=gX al .al n c (au x.ops) x f k) (mk:=fun(a:List aH) i=>(a,tF i,(i:Int))) (fun a r i=>k (a++r.map (qS c f),tF x.ops.length,(x.ops.length:Int))) (fun a i=>a.length=i) x.ops (by omega) ?_ ?_ n (by omega) [] rfl
 ·simpa[tF]using this
 ·rintro self out i o r hp hd hi e1 e2 e3 ih
  have ho:x.ops[i]? =some o:=by rw[←dG];exact e1
  have hm:o∈x.ops:=jK ho
  have dt: ∀a∈o.args,0≤a∧a<(tF i).length:=fun a ha=>by rw[tE];exact hx.args i o ho a ha
  have hoa:=hx.ar o hm
  have hs:=Lo hn (hd:=x.head) (kd:=x.aN) (z:=0) (ops:=out) dt hoa
  rw[HI (fun a ha=>hx.args i o ho a ha)]at hs;have ME:=PK (y:=o.args) (l:=out) (k:=o.kind) (z:=o.num) (nm:=o.name) (by omega) (by omega)
  have ad8:=PK (y:=o.args) (l:=out) (k:=o.kind) (z:=o.num) (nm:=(bL c (f.getD (find c o.name).toNat 0).toNat).name) (by omega) (by omega)
  simp only[aw]at ME ad8;simp only[gX,e2,aE,e1,aw,IC hn];have hL:(o::r).map (qS c f)=qS c f o::r.map (qS c f):=rfl
  rw[hL];have hil:=tE i
  cases Is:aL o with
  |true=>
   have yc:qS c f o=⟨o.kind,(bL c (f.getD (find c o.name).toNat 0).toNat).name,o.num,o.args⟩:=by unfold qS;rw[Is];rfl
   have g1:=((rt.op b hb x SH i o ho).call Is).1
   have l1:find c o.name<c.ab.length:=gO _ _
   obtain⟨j,hj1,hj2,hj3⟩:=Q3 hf (k:=(find c o.name).toNat) (by omega);have hk:gK f (find c o.name).toNat=some (f.getD (find c o.name).toNat 0):=by unfold gK;exact uU (by rw[hf.len];omega)
   simp only[aE];rw[mH hn rt.ck h0 g1,aw,QQ g1 (by omega),aw,hk,aw,hj3,aw];simp only[hs,aw];rw[ad8];simp only[aw];rw[b8 (by omega) (by omega),aw,aw,e3,hp,←B9];have:=ih (out++[qS c f o]) (by simp[hp])
   rw[yc]at this;rw[this,yc];simp
  |false=>
   have yc:qS c f o=o:=by unfold qS;rw[Is];rfl
   simp only[aM,hs,aw];rw[ME];simp only[aw];rw[b8 (by omega) (by omega),aw,aw,e3,hp,←B9];have:=ih (out++[o]) (by simp[hp])
   rw[this,yc];simp
 ·rintro self out hp e
  simp only[gX,e,aM];simp
theorem aaK{c:af}(rt:Rt c)(h0:bS c=0){f:List Int}(hf:yk c f){i:Nat}{b:ai}{rb:List ai}(hb:c.ab.drop i=b::rb){l9:List ai}(hl9:l9.length=c.ab.length)(k:List ai×Int→Option (af×Int))(R:Option (af×Int))
  (hk:k (fU (tu c f) c.ab (i+1) 0,(b.ae.length:Int))=R):iter (gY al .al n c l9 (au b.ae) b f (i:Int) k) n (fU (tu c f) c.ab i 0,0)=R:=by
 have hc:=rt.ck
 have hg:=rt.dL
 have Kd:=lT hb
 have Xj:=hc.br b Kd
 have hi:i<c.ab.length:=(bh.1 (Ba hb)).1
 refine bJ (body:=gY al .al n c l9 (au b.ae) b f (i:Int) k) (mk:=fun(a:List ai) j=>(a,(j:Int))) (fun _ _ _=>R) (fun a j=>a=fU (tu c f) c.ab i j) b.ae (by omega) ?_ ?_ n (by omega) _ rfl
 ·rintro self L j x r hp hd hj e1 e2 e3 ih
  subst hp;have hx:=hg.x hc Kd (lT hd)
  have ya:=hx.res
  have hg0: ∀{a b:Int},gK [a,b] 0=some a:=rfl
  simp only[gY,e2,aE,e1,aw,show lx 2 (List.replicate 2 (0:Int))=some ()from rfl,show∀a b:Int,lx 2 [a,b]=some ()from fun _ _=>rfl];rw[Ws hn rt h0 hf Kd (lT hd)];have hr:gI (tF x.ops.length) x.result=some x.result:=by
   rw[uV ya.1 (by rw[tE];exact ya.2),FX ya.1 ya.2]
  have nQ:Md.al.ln l9=c.ab.length:=hl9
  simp only[hr,aw,nQ,fT hi,GD hb,show gN 2 0=some 0 from rfl,hg0];rw[b8 (by omega) (by simp;omega),aw];have:=GC (F:=tu c f) hb hd
  have e9:tu c f x=⟨x.head,x.aN,x.ops.map (qS c f),x.result⟩:=rfl
  rw[←e9,this,aw,e3];exact ih _ rfl
 ·rintro self L hp e
  subst hp;simp only[gY,e,aM];rw[Dm hb];exact hk
theorem aaL{c:af}(rt:Rt c)(h0:bS c=0){f:List Int}(hf:yk c f){l9:List ai}(hl9:l9.length=c.ab.length)(k:List ai×Int→Option (af×Int))(R:Option (af×Int))
  (hk:k (c.ab.map (fH (tu c f)),(c.ab.length:Int))=R):iter (gZ al .al n c l9 (au c.ab) f k) n (c.ab.map bare,0)=R:=by
 have Y4:=rt.ck.bl
 refine(bJ (body:=gZ al .al n c l9 (au c.ab) f k) (mk:=fun(a:List ai) j=>(a,(j:Int))) (fun _ _ _=>R) (fun a j=>a=fU (tu c f) c.ab j 0) c.ab (by omega) ?_ ?_ n (by omega) _ MU.symm)
 ·rintro self L i b r hp hd hi e1 e2 e3 ih
  subst hp;simp only[gZ,e2,aE,e1,aw];refine aaK hn rt h0 hf hd hl9 _ R ?_;dsimp only;rw[e3];exact ih _ rfl
 ·rintro self L hp e
  subst hp;simp only[gZ,e,aM];rw[GF];exact hk
theorem aaM{c:af}(Y4:c.ab.length≤16)(k:List ai×Int→Option (af×Int)){b:ai}{r:List ai}(hb:c.ab=b::r):iter (g0 al .al n c (au c.ab) k) n ([bare b],1)=k (c.ab.map bare,(c.ab.length:Int)):=by
 have:=Ih (body:=g0 al .al n c (au c.ab) k) (mk:=fun(a:List ai) j=>(a,(j:Int))) (fun a r _=>k (a++r.map bare,(c.ab.length:Int))) (fun a i=>a.length=i) c.ab (by omega) ?_ ?_ n 1 (by rw[hb];simp) (by omega) [bare b] rfl
 ·refine this.trans ?_;rw[hb];rfl
 ·intro self l i x r hp hd hi e1 e2 e3 ih;simp only[g0,e2,aE,e1,aw];rw[b8 (by omega) (by omega),aw,e3,ih _ (by simp[hp])];simp[bare]
 ·intro self l hp e;simp only[g0,e,aM];simp
theorem aaJ{c:af}{f:List Int}(hf:f.length=12){L gJ:List ai}(hL:L.length≤12)(hl:gJ.length=L.length)(k:List ai→Option (af×Int)):
  iter (gW al .al n gJ L (au L) f fun(l,_)=>k l) n ([],0)=k (oV f 0 L):=by
 have:=bJ (body:=gW al .al n gJ L (au L) f fun(l,_)=>k l) (mk:=fun(a:List ai) i=>(a,(i:Int))) (fun a r i=>k (a++oV f i r)) (fun a i=>a.length≤i) L (by omega) ?_ ?_ n (by omega) [] (Nat.le_refl _)
 ·simpa using this
 ·rintro self a i b r hp hd hi e1 e2 e3 ih
  have nQ:Md.al.ln gJ=L.length:=hl
  have hb:gK L i=some b:=by unfold gK;rw[←dG];exact e1
  have hfk:gK f i=some (f.getD i 0):=by unfold gK;exact uU (by omega)
  simp only[gW,e2,aE,nQ,cD];rw[fT hi,aw,hb,aw,fT (by omega),aw,hfk,aw,b8 (by omega) (by omega),aw,e3];unfold oV;cases decide (f.getD i 0=(i:Int))with
  |true=>rw[aE,ih _ (by simp;omega)];simp
  |false=>rw[aM,ih _ (by omega)];rfl
 ·rintro self a hp e
  simp only[gW,e,aM];simp[oV]
theorem M1{c:af}(rt:Rt c)(h0:bS c=0){f:List Int}(hf:yk c f)(hp:gV al .al n c=some f):gd al .al n c=some (BX c f,0):=by
 have hc:=rt.ck
 have qq:=rt.dL.some.2
 unfold gd;rw[rq hn hc,h0,aw];have hi:(bif al.not (al.aU (0:Int) 0)then(some ((⟨[]⟩:af),(0:Int)):Option (af×Int))else none)=none:=rfl
 obtain⟨b,r,hb⟩: ∃b r,c.ab=b::r:=by
  cases h:c.ab with
  |nil=>have:=rt.dL.some.1;rw[h]at this;simp at this
  |cons b r=>exact⟨b,r,rfl⟩
 have h1:al.bg 0 (au c.ab)=true:=by show decide ((0:Int)<c.ab.length)=true;rw[hb];simp
 have h2:gI c.ab 0=some b:=by rw[hb];rfl
 have hw:al.wrap .i64 (al.add 0 1)=1:=by show IntKind.wrap .i64 1=1;rw[jB (by omega)]
 simp only[cw,cD];simp only[decide_true,Bool.not_true,aM];rw[hp,aw,aw,sP (by simp),aw,aw,h1,aE,h2,aw,b8 (by omega) (by simp),aw,hw];refine(aaM hn rt.ck.bl _ hb).trans ?_;rw[aw];refine aaL hn rt h0 hf (by simp) _ _ ?_;dsimp only;rw[aw];have e:(((Md.al.ln (c.ab.map bare):Nat)):Int)=au (c.ab.map (fH (tu c f))):=by simp[Md.al,au]
 rw[e];exact aaJ hn (c:=c) hf.len (by simp;omega) (by simp) fun l=>some ((⟨l⟩:af),0)
theorem Th{c:af}(hc:yj c)(h:bS c≠0):gd al .al n c=some (⟨[]⟩,bS c):=by
 unfold gd;rw[rq hn hc,aw];simp only[cw,cD];rw[bT h];rfl
theorem yO{c:af}(rt:Rt c)(h0:bS c=0){f:List Int}(hf:yk c f)(hp:gV al .al n c=some f):ej al .al n c=some (f.take c.ab.length,0):=by
 have hc:=rt.ck
 have qq:=rt.dL.some.2
 unfold ej;have e:(⟨c.ab⟩:af)=c:=rfl
 rw[rq hn hc,h0,aw];simp only[cw,cD,e];simp only[decide_true,Bool.not_true,aM];have ha:Yh 12 (au c.ab) f=some c.ab.length:=by unfold Yh au;rw[if_pos ⟨by omega,by omega,hf.len⟩];simp
 rw[hp,aw,aw,sP (by simp),aw,aw,ha,aw];unfold kE;rw[Rb (by omega) (by simp;omega)];simp
end
end Ab
namespace Ab
open Go
set_option maxRecDepth 10000
section
variable{n:Nat}(hn:100<n)
 include hn
theorem P8{f:List Int}{m k:Nat}(hf:f.length=12)(hm:m≤12)(hk:k<m):gI (f.take m) (k:Int)=some (f.getD k 0):=by
 rw[dG,List.getElem?_take_of_lt hk];exact uU (by omega)
theorem Uv{c:af}(rt:Rt c){f:List Int}(hf:yk c f){b:ai}(hb:b∈c.ab){x:ah}(SH:x∈b.ae)(K:List aH→Option af):
  iter (jn al .al n c x (f.take c.ab.length) fun(l,_)=>K l) n ([],0)=K (x.ops.map (qS c f)):=by
 have hx:=rt.dL.x rt.ck hb SH
 have qq:=rt.dL.some.2
 have hlen:=hx.len
 have:=bJ (body:=jn al .al n c x (f.take c.ab.length) fun(l,_)=>K l) (mk:=fun(a:List aH) i=>(a,(i:Int))) (fun a r _=>K (a++r.map (qS c f))) (fun a i=>a.length=i) x.ops (by omega) ?_ ?_ n (by omega) [] rfl
 ·simpa using this
 ·rintro self out i o r hp hd hi e1 e2 e3 ih
  have ho:x.ops[i]? =some o:=by rw[←dG];exact e1
  simp only[jn,aw,e2,aE,e1,CS hn];have hL:(o::r).map (qS c f)=qS c f o::r.map (qS c f):=rfl
  rw[hL];cases Is:aL o with
  |true=>
   have yc:qS c f o=⟨o.kind,(bL c (f.getD (find c o.name).toNat 0).toNat).name,o.num,o.args⟩:=by unfold qS;rw[Is];rfl
   have g1:=((rt.op b hb x SH i o ho).call Is).1
   have l1:find c o.name<c.ab.length:=gO _ _
   obtain⟨j,hj1,hj2,hj3⟩:=Q3 hf (k:=(find c o.name).toNat) (by omega);have hk:gI (f.take c.ab.length) (find c o.name)=some (f.getD (find c o.name).toNat 0):=by
    have:=P8 hn hf.len qq (k:=(find c o.name).toNat) (m:=c.ab.length) (by omega)
    rwa [show(((find c o.name).toNat:Nat):Int)=find c o.name by omega]at this
   simp only[aE];rw[iC hn (by omega),aw,hk,aw,hj3,aw,b8 (by omega) (by omega),aw,e3];have:=ih (out++[qS c f o]) (by simp[hp])
   rw[yc]at this;rw[this,yc];simp
  |false=>
   have yc:qS c f o=o:=by unfold qS;rw[Is];rfl
   simp only[aM];rw[b8 (by omega) (by omega),aw,e3];have:=ih (out++[o]) (by simp[hp])
   rw[this,yc];simp
 ·rintro self out hp e
  simp only[jn,aw,e,aM];simp
theorem Uw{c:af}(rt:Rt c){f:List Int}(hf:yk c f){i:Nat}{b:ai}(hi:c.ab[i]? =some b)(K:List ah→Option af):
  iter (jo al .al n c (f.take c.ab.length) (i:Int) fun(l,_)=>K l) n ([],0)=K (b.ae.map (tu c f)):=by
 have hb:=jK hi
 have Xj:=rt.ck.br b hb
 have Io:gI c.ab (i:Int)=some b:=by rw[dG];exact hi
 have:=bJ (body:=jo al .al n c (f.take c.ab.length) (i:Int) fun(l,_)=>K l) (mk:=fun(a:List ah) j=>(a,(j:Int))) (fun a r _=>K (a++r.map (tu c f))) (fun a j=>a.length=j) b.ae (by omega) ?_ ?_ n (by omega) [] rfl
 ·simpa using this
 ·rintro self out j x r hp hd hj e1 e2 e3 ih
  have SH:x∈b.ae:=lT hd
  simp only[jo,aw,Io,e2,aE,e1];refine(Uv hn rt hf hb SH fun Nd=>(aQ 56 out (⟨x.head,x.aN,Nd,x.result⟩:ah)).bind fun H9=>self (H9,al.wrap .i64 (al.add (j:Int) 1))).trans ?_;rw[b8 (by omega) (by omega),aw,e3];have:=ih (out++[tu c f x]) (by simp[hp])
  refine Eq.trans ?_ (this.trans ?_)
  ·rfl
  ·simp
 ·rintro self out hp e
  simp only[jo,aw,Io,e,aM];simp
theorem CR{c:af}(rt:Rt c){f:List Int}(hf:yk c f)(hp:jq al .al n c=some (f.take c.ab.length)):rV al .al n c=some (BX c f):=by
 have qq:=rt.dL.some.2
 unfold rV;rw[hp,aw];have:=bJ (body:=lH al .al n c (f.take c.ab.length) fun(ud,rv)=>some (⟨ud⟩:af)) (mk:=fun(a:List ai) i=>(a,(i:Int))) (fun a r i=>some ⟨a++oV f i (r.map (fH (tu c f)))⟩) (fun a i=>a.length≤i) c.ab (by omega) ?_ ?_ n (by omega) [] (Nat.le_refl _)
 ·exact this
 ·rintro self a i b r hp hd hi e1 e2 e3 ih
  have hk:=P8 hn hf.len qq hi
  have hb:c.ab[i]? =some b:=by rw[←dG];exact e1
  simp only[lH,aw,e2,aE,hk,e1,cw,cD];have hL:oV f i ((b::r).map (fH (tu c f)))=bif decide (f.getD i 0=(i:Int))then fH (tu c f) b::oV f (i+1) (r.map (fH (tu c f)))else oV f (i+1) (r.map (fH (tu c f))):=rfl
  rw[hL];cases decide (f.getD i 0=(i:Int))with
  |false=>
   simp only[Bool.not_false,aE,aM];rw[e3,ih _ (by omega)]
  |true=>
   simp only[Bool.not_true,aE,aM];refine(Uw hn rt hf hb fun Ep=>(aQ 48 a (⟨b.name,b.aG,Ep⟩:ai)).bind fun nV=>self (nV,al.wrap .i64 (al.add (i:Int) 1))).trans ?_;rw[b8 (by omega) (by omega),aw,e3];have:=ih (a++[fH (tu c f) b]) (by simp;omega)
   refine Eq.trans ?_ (this.trans ?_)
   ·rfl
   ·simp
 ·rintro self a hp e
  simp only[lH,aw,e,aM];simp[oV]
end
end Ab
namespace Ab
open Go
set_option maxRecDepth 10000
def M7(c:af)(i k:Nat):Prop:=i<c.ab.length∧ ∃x∈(bL c i).ae,∃o∈x.ops,aL o=true∧find c o.name=k
inductive Re(c:af)(s:Nat):Nat→Prop
 |base:Re c s s
 |step {i k:Nat}:Re c s i→M7 c i k→Re c s k
theorem acJ{c:af}{i k:Nat}(h:M7 c i k):k<c.ab.length:=by
 obtain⟨_,x,_,o,_,_,h⟩:=h;have:find c o.name<c.ab.length:=gO _ _
 omega
theorem Uz{c:af}{s i:Nat}(hs:s<c.ab.length)(h:Re c s i):i<c.ab.length:=by
 cases h with
 |base=>exact hs
 |step _ h=>exact acJ h
theorem Fl{c:af}{s i:Nat}{P:Nat→Prop}(h0:P s)(h: ∀i k,P i→M7 c i k→P k)(hr:Re c s i):P i:=by
 induction hr with
 |base=>exact h0
 |step _ hc ih=>exact h _ _ ih hc
def jg(q:Nat→Bool):Nat→List ai→List ai
 |_,[]=>[]
 |i,b::r=>bif q i then b::jg q (i+1) r else jg q (i+1) r
theorem C5{p q:Nat→Bool}: ∀(l:List ai) (i:Nat),(∀j,i≤j→j<i+l.length→p j=q j)→jg p i l=jg q i l
 |[],_,_=>rfl
 |b::r,i,h=>by
  unfold jg;rw[h i (Nat.le_refl _) (by simp),C5 r (i+1) fun j h1 h2=>h j (by omega) (by simp;omega)]
theorem Ic(q:Nat→Bool): ∀(i:Nat) (l:List ai),(jg q i l).length≤l.length
 |_,[]=>Nat.le_refl _
 |i,b::r=>by
  have:=Ic q (i+1) r
  unfold jg;cases q i<;>simp<;>omega
structure MG(c:af)(s:Nat)(l:List Int):Prop where
 len:l.length=12
 z: ∀j,l.getD j 0=0∨l.getD j 0=1
 ok: ∀j,l.getD j 0=1→Re c s j
def MLe(l m:List Int):Prop:= ∀j,l.getD j 0=1→m.getD j 0=1
theorem qG{l:List Int}{k j:Nat}(hk:k<l.length):(l.set k 1).getD j 0=bif decide (j=k)then 1 else l.getD j 0:=by
 simp only[List.getD_eq_getElem?_getD,List.getElem?_set];by_cases e:k=j
 ·subst e;simp[hk]
 ·rw[if_neg e,bT (by omega)];rfl
def yu(c:af)(i:Nat)(l:List Int)(o:aH):List Int:=bif decide (l.getD i 0=1)&&aL o then l.set (find c o.name).toNat 1 else l
def LW(c:af)(i:Nat)(l:List Int)(ops:List aH):List Int:=ops.foldl (yu c i) l
def S7(c:af)(i:Nat)(l:List Int)(Q6:List ah):List Int:=Q6.foldl (fun l x=>LW c i l x.ops) l
def ID(c:af):Nat→List ai→List Int→List Int
 |_,[],l=>l
 |i,b::r,l=>ID c (i+1) r (S7 c i l b.ae)
def qK(c:af)(l:List Int):List Int:=ID c 0 c.ab l
section
variable{c:af}(rt:Rt c){s:Nat}(hs:s<c.ab.length)
 include rt hs
theorem Li{i:Nat}{b:ai}(hi:c.ab[i]? =some b){x:ah}(hx:x∈b.ae){o:aH}(ho:o∈x.ops){l:List Int}(h:MG c s l):MG c s (yu c i l o)∧MLe l (yu c i l o)∧(l.getD i 0=1→aL o=true→(yu c i l o).getD (find c o.name).toNat 0=1):=by
 have qq:=rt.dL.some.2
 have aV:find c o.name<c.ab.length:=gO _ _
 unfold yu;cases h1:decide (l.getD i 0=1)with
 |false=>exact⟨h,fun _ hj=>hj,fun h2 _=>absurd h2 (of_decide_eq_false h1)⟩
 |true=>
  cases h2:aL o with
  |false=>exact⟨h,fun _ hj=>hj,fun _ h3=>by cases h3⟩
  |true=>
   simp only[Bool.and_true,aE];obtain⟨p,hp⟩:=List.mem_iff_getElem?.1 ho;have hf:=((rt.op b (jK hi) x hx p o hp).call h2).1
   have hk:(find c o.name).toNat<l.length:=by rw[h.len];omega
   have hc:M7 c i (find c o.name).toNat:=⟨(bh.1 hi).1,x,by rw[GI hi];exact hx,o,ho,h2,by omega⟩
   refine⟨⟨by simp[h.len],fun j=>?_,fun j hj=>?_⟩,fun j hj=>?_,fun _ _=>?_⟩
   ·rw[qG hk];cases decide (j=(find c o.name).toNat)with
    |true=>exact .inr rfl
    |false=>exact h.z j
   ·rw[qG hk]at hj;by_cases e:j=(find c o.name).toNat
    ·subst e;exact .step (h.ok i (of_decide_eq_true h1)) hc
    ·rw[bT e]at hj;exact h.ok j hj
   ·rw[qG hk,hj];cases decide (j=(find c o.name).toNat)<;>rfl
   ·rw[qG hk,bH rfl];rfl
theorem JS{i:Nat}{b:ai}(hi:c.ab[i]? =some b){x:ah}(hx:x∈b.ae): ∀(ops:List aH),(∀o∈ops,o∈x.ops)→ ∀(l:List Int),MG c s l→MG c s (LW c i l ops)∧MLe l (LW c i l ops)∧(l.getD i 0=1→ ∀o∈ops,aL o=true→(LW c i l ops).getD (find c o.name).toNat 0=1)
 |[],_,l,h=>⟨h,fun _ hj=>hj,fun _ o ho=>by simp at ho⟩
 |o::r,wT,l,h=>by
  obtain⟨a1,a2,a3⟩:=Li rt hs hi hx (wT o (by simp)) h;obtain⟨b1,b2,b3⟩:=JS hi hx r (fun q hq=>wT q (by simp[hq])) _ a1;refine⟨b1,fun j hj=>b2 j (a2 j hj),fun h1 q hq hc=>?_⟩;rcases List.mem_cons.1 hq with hq|hq
  ·subst hq;exact b2 _ (a3 h1 hc)
  ·exact b3 (a2 i h1) q hq hc
theorem KC{i:Nat}{b:ai}(hi:c.ab[i]? =some b): ∀(Q6:List ah),(∀x∈Q6,x∈b.ae)→ ∀(l:List Int),MG c s l→MG c s (S7 c i l Q6)∧MLe l (S7 c i l Q6)∧(l.getD i 0=1→ ∀x∈Q6,∀o∈x.ops,aL o=true→(S7 c i l Q6).getD (find c o.name).toNat 0=1)
 |[],_,l,h=>⟨h,fun _ hj=>hj,fun _ o ho=>by simp at ho⟩
 |x::r,wT,l,h=>by
  obtain⟨a1,a2,a3⟩:=JS rt hs hi (wT x (by simp)) x.ops (fun _ ho=>ho) l h;obtain⟨b1,b2,b3⟩:=KC hi r (fun q hq=>wT q (by simp[hq])) _ a1;refine⟨b1,fun j hj=>b2 j (a2 j hj),fun h1 q hq o ho hc=>?_⟩;rcases List.mem_cons.1 hq with hq|hq
  ·subst hq;exact b2 _ (a3 h1 o ho hc)
  ·exact b3 (a2 i h1) q hq o ho hc
theorem MW: ∀(r:List ai) (i:Nat),c.ab.drop i=r→ ∀(l:List Int),MG c s l→MG c s (ID c i r l)∧MLe l (ID c i r l)∧(∀a k,i≤a→l.getD a 0=1→M7 c a k→(ID c i r l).getD k 0=1)
 |[],i,hd,l,h=>⟨h,fun _ hj=>hj,fun a k ha _ hc=>by have:=hc.1;simp at hd;omega⟩
 |b::r,i,hd,l,h=>by
  have hi:=Ba hd
  obtain⟨a1,a2,a3⟩:=KC rt hs hi b.ae (fun _ ho=>ho) l h;obtain⟨b1,b2,b3⟩:=MW r (i+1) (by rw[←List.drop_drop,hd];rfl) _ a1;refine⟨b1,fun j hj=>b2 j (a2 j hj),fun a k ha h1 hc=>?_⟩;by_cases e:a=i
  ·subst e;obtain⟨_,x,hx,o,ho,Is,hk⟩:=hc;rw[GI hi]at hx;have:=a3 h1 x hx o ho Is
   rw[hk,Int.toNat_natCast]at this;exact b2 _ this
  ·exact b3 a k (by omega) (a2 a h1) hc
theorem HK{l:List Int}(h:MG c s l):MG c s (qK c l)∧MLe l (qK c l)∧(∀a k,l.getD a 0=1→M7 c a k→(qK c l).getD k 0=1):=by
 obtain⟨h1,h2,h3⟩:=MW rt hs c.ab 0 rfl l h;exact⟨h1,h2,fun a k=>h3 a k (Nat.zero_le _)⟩
end
def S4(l:List Int):Nat:=(List.range 12).countP fun i=>decide (l.getD i 0=1)
theorem acI(l:List Int):S4 l≤12:=by
 have:=List.countP_le_length (p:=fun i=>decide (l.getD i 0=1)) (l:=List.range 12)
 simpa[S4]using this
theorem acH{c:af}{s:Nat}{l m:List Int}(h:MG c s l)(g:MG c s m)(hle:MLe l m)(ct:m≠l):S4 l<S4 m:=by
 unfold S4;refine xT (fun i _ hi=>bH (hle i (of_decide_eq_true hi))) ?_;apply Classical.byContradiction;intro Mz;apply ct;apply List.ext_getElem (by rw[h.len,g.len]);intro i h1 h2;have hi:i<12:=by rw[g.len]at h1;exact h1
 have e1:m.getD i 0=m[i]:=by simp[List.getD_eq_getElem?_getD,h1]
 have e2:l.getD i 0=l[i]:=by simp[List.getD_eq_getElem?_getD,h2]
 rw[←e1,←e2];rcases h.z i with a|a
 ·rcases g.z i with b|b
  ·rw[a,b]
  ·exact absurd ⟨i,List.mem_range.2 hi,bT (by rw[a];omega),bH b⟩ Mz
 ·rw[a,hle i a]
structure ac0(c:af)(s:Nat)(l:List Int):Prop where
 len:l.length=12
 iff: ∀j,l.getD j 0=1↔Re c s j
theorem aaN{c:af}(rt:Rt c){s:Nat}(hs:s<c.ab.length){l:List Int}(h:MG c s l)(h0:l.getD s 0=1)(hr:qK c l=l):ac0 c s l:=
 ⟨h.len,fun j=>⟨h.ok j,fun hj=>Fl (P:=fun j=>l.getD j 0=1) h0 (fun a k ha hc=>by have:=(HK rt hs h).2.2 a k ha hc;rwa [hr]at this) hj⟩⟩
end Ab
namespace Ab
open Go
set_option maxRecDepth 10000
section
variable{n:Nat}(hn:100<n)
variable{c:af}(rt:Rt c)(h0:bS c=0){s:Nat}(hs:s<c.ab.length)
 include hn rt h0 hs
theorem V5{i:Nat}{b:ai}(hi:c.ab[i]? =some b){x:ah}(hx:x∈b.ae)(j:Int)(K:List Int→Option (af×Int)){l:List Int}(h:MG c s l):
  iter (js al .al n c (au x.ops) x (i:Int) j fun(l,_)=>K l) n (l,0)=K (LW c i l x.ops):=by
 have qq:=rt.dL.some.2
 have Kd:=jK hi
 have hib:i<c.ab.length:=(bh.1 hi).1
 have hlen:=rt.ck.op b Kd x hx
 refine bJ (body:=js al .al n c (au x.ops) x (i:Int) j fun(l,_)=>K l) (mk:=fun(a:List Int) z=>(a,(z:Int))) (fun a r _=>K (LW c i a r)) (fun a _=>MG c s a) x.ops (by omega) ?_ ?_ n (by omega) l h
 ·rintro self a z o r hp hd hz e1 e2 e3 ih
  have ho:x.ops[z]? =some o:=by rw[←dG];exact e1
  have hom:o∈x.ops:=jK ho
  have hg0: ∀{a b:Int},gK [a,b] 0=some a:=rfl
  have hga:gK a i=some (a.getD i 0):=by unfold gK;exact uU (by rw[hp.len];omega)
  simp only[js,e2,aE,e1,aw,show gN 2 0=some 0 from rfl,hg0,fT (show i<12 by omega),hga,cD,bZ];rw[GZ (y:=aL o) fun _=>IC hn o,aw];have er:=Li rt hs hi hx hom hp
  have hL:LW c i a (o::r)=LW c i (yu c i a o) r:=rfl
  rw[hL];have auk:(bif decide (a.getD i 0=1)then(bif decide (a.getD i 0=1)then aL o else default)else false)=(decide (a.getD i 0=1)&&aL o):=by cases decide (a.getD i 0=1)<;>rfl
  rw[auk];cases h1:(decide (a.getD i 0=1)&&aL o)with
  |false=>
   have e:yu c i a o=a:=by unfold yu;rw[h1];rfl
   rw[e]at er ⊢;simp only[aM];rw[e3,ih _ hp]
  |true=>
   have e:yu c i a o=a.set (find c o.name).toNat 1:=by unfold yu;rw[h1];rfl
   rw[e]at er ⊢;simp only[Bool.and_eq_true]at h1;have g1:=((rt.op b Kd x hx z o ho).call h1.2).1
   have l1:find c o.name<c.ab.length:=gO _ _
   have hk:(find c o.name).toNat<a.length:=by rw[hp.len];omega
   simp only[aE];rw[mH hn rt.ck h0 g1,aw,QQ g1 (by omega),aw,Xw hk,aw,Ei hk,aw,e3,ih _ er.1]
 ·rintro self a hp e
  simp only[js,e,aM];rfl
theorem V6{i:Nat}{b:ai}(hi:c.ab[i]? =some b)(K:List Int→Option (af×Int)){l:List Int}(h:MG c s l):
  iter (jt al .al n c (au b.ae) b (i:Int) fun(l,_)=>K l) n (l,0)=K (S7 c i l b.ae):=by
 have Kd:=jK hi
 have Xj:=rt.ck.br b Kd
 refine bJ (body:=jt al .al n c (au b.ae) b (i:Int) fun(l,_)=>K l) (mk:=fun(a:List Int) z=>(a,(z:Int))) (fun a r _=>K (S7 c i a r)) (fun a _=>MG c s a) b.ae (by omega) ?_ ?_ n (by omega) l h
 ·rintro self a z x r hp hd hz e1 e2 e3 ih
  have SH:x∈b.ae:=lT hd
  simp only[jt,e2,aE,e1,aw,show lx 2 (List.replicate 2 (0:Int))=some ()from rfl];refine(V5 hn rt h0 hs hi SH (z:Int) (fun vX=>self (vX,al.wrap .i64 (al.add (z:Int) 1))) hp).trans ?_;rw[e3];exact ih _ (JS rt hs hi SH x.ops (fun _ ho=>ho) a hp).1
 ·rintro self a hp e
  simp only[jt,e,aM];rfl
theorem V7(K:List Int→Option (af×Int)){l:List Int}(h:MG c s l):iter (ju al .al n c (au c.ab) fun(l,_)=>K l) n (l,0)=K (qK c l):=by
 have Y4:=rt.ck.bl
 refine bJ (body:=ju al .al n c (au c.ab) fun(l,_)=>K l) (mk:=fun(a:List Int) z=>(a,(z:Int))) (fun a r i=>K (ID c i r a)) (fun a _=>MG c s a) c.ab (by omega) ?_ ?_ n (by omega) l h
 ·rintro self a z b r hp hd hz e1 e2 e3 ih
  have hb:c.ab[z]? =some b:=by rw[←dG];exact e1
  simp only[ju,e2,aE,e1,aw];refine(V6 hn rt h0 hs hb (fun WK=>self (WK,al.wrap .i64 (al.add (z:Int) 1))) hp).trans ?_;rw[e3];exact ih _ (KC rt hs hb b.ae (fun _ ho=>ho) a hp).1
 ·rintro self a hp e
  simp only[ju,e,aM];rfl
theorem LZ(K:List Int→Option (af×Int)): ∀(m:Nat) (l:List Int),MG c s l→l.getD s 0=1→12 - S4 l<m→ ∃l',ac0 c s l'∧iter (e8 al .al n c K) m l=K l'
 |0,_,_,_,h=>absurd h (Nat.not_lt_zero _)
 |m+1,l,h,hl,hm=>by
  have hR:=HK rt hs h
  have step:iter (e8 al .al n c K) (m+1) l=bif decide (qK c l=l)then K (qK c l)else iter (e8 al .al n c K) m (qK c l):=by
   show e8 al .al n c K (iter _ m) l=_;simp only[e8,aw,sP h.len,show lx 12 (List.replicate 12 (0:Int))=some ()from rfl];refine(V7 hn rt h0 hs (fun KR=>(lx 12 KR).bind fun _=>(lx 12 KR).bind fun _=>bif decide (KR=l)then K KR else iter (e8 al .al n c K) m KR) h).trans ?_;simp only[sP hR.1.len,aw]
  rw[step];by_cases e:qK c l=l
  ·exact⟨l,aaN rt hs h hl e,by rw[bH e,e];rfl⟩
  ·have aV:=acH h hR.1 hR.2.1 e
   have:=acI (qK c l)
   obtain⟨l',h1,h2⟩:=LZ K m (qK c l) hR.1 (hR.2.1 s hl) (by omega);exact⟨l',h1,by rw[bT e];exact h2⟩
end
section
variable{n:Nat}(hn:100<n)
 include hn
theorem V4{c:af}(qq:c.ab.length≤12){l:List Int}(hl:l.length=12):iter (gC al .al n l (au c.ab) c fun(Sr,z54)=>some ((⟨Sr⟩:af),0)) n ([],0)=some (⟨jg (fun i=>decide (l.getD i 0=1)) 0 c.ab⟩,0):=by
 have:=bJ (body:=gC al .al n l (au c.ab) c fun(Sr,z54)=>some ((⟨Sr⟩:af),0)) (mk:=fun(a:List ai) i=>(a,(i:Int))) (fun a r i=>some (⟨a++jg (fun i=>decide (l.getD i 0=1)) i r⟩,0)) (fun a i=>a.length≤i) c.ab (by omega) ?_ ?_ n (by omega) [] (Nat.le_refl _)
 ·exact this
 ·rintro self a i b r hp hd hi e1 e2 e3 ih
  have eu:gK l i=some (l.getD i 0):=by unfold gK;exact uU (by omega)
  simp only[gC,e2,aE,e1,aw,fT (show i<12 by omega),eu,cD];unfold jg;cases decide (l.getD i 0=1)with
  |true=>
   simp only[aE];rw[b8 (by omega) (by omega),aw,e3,ih _ (by simp;omega)];simp
  |false=>
   simp only[aM];rw[e3,ih _ (by omega)]
 ·rintro self a hp e
  simp only[gC,e,aM];simp[jg]
theorem acZ{c:af}(hc:yj c)(h0:bS c=0){a:ByteArray}(hf:0≤find c a): ∃l,ac0 c (find c a).toNat l∧ga al .al n c a=some (⟨jg (fun i=>decide (l.getD i 0=1)) 0 c.ab⟩,0):=by
 have rt:=Uq hc h0
 have qq:=rt.dL.some.2
 have l1:find c a<c.ab.length:=gO _ _
 have hs:(find c a).toNat<c.ab.length:=by omega
 have hk:(find c a).toNat<(List.replicate 12 (0:Int)).length:=by simp;omega
 have hz: ∀j,(List.replicate 12 (0:Int)).getD j 0=0:=fun j=>by rw[List.getD_eq_getElem?_getD,List.getElem?_replicate];split<;>rfl
 have hm:MG c (find c a).toNat ((List.replicate 12 (0:Int)).set (find c a).toNat 1):=by
  refine⟨by simp,fun j=>?_,fun j hj=>?_⟩
  ·rw[qG hk,hz];cases decide (j=(find c a).toNat)<;>simp
  ·rw[qG hk,hz]at hj;by_cases e:j=(find c a).toNat
   ·subst e;exact .base
   ·rw[bT e]at hj;cases hj
 have hm1:((List.replicate 12 (0:Int)).set (find c a).toNat 1).getD (find c a).toNat 0=1:=by rw[qG hk,bH rfl];rfl
 obtain⟨l,h1,h2⟩:=LZ hn rt h0 hs (fun Eo=>(oe al .al n c).bind fun Tm=>(some (au Tm.ab)).bind fun OT=>iter (gC al .al n Eo OT Tm (fun(Sr,z54)=>some ((⟨Sr⟩:af),0))) n ([],0)) n _ hm hm1 (by omega);refine⟨l,h1,?_⟩;unfold ga;rw[mH hn hc h0 hf,aw];simp only[cw,cD,decide_true,Bool.not_true,aM];rw[aw,QQ hf (by omega),aw,Xw hk,aw,Ei hk,aw];refine h2.trans ?_;dsimp only;rw[ahC hn hc h0,aw,aw];exact V4 hn qq h1.len
theorem Tg{c:af}(hc:yj c)(h0:bS c=0){a:ByteArray}(hf: ¬0≤find c a):ga al .al n c a=some (⟨[]⟩,1):=by
 have hb:=hc.bl
 unfold ga il;rw[rq hn hc,h0,aw,Bi hn (by omega),aw];simp only[cw,cD,cX,decide_true,Bool.not_true,aM];rw[bH (show find c a<0 by omega)];rfl
theorem Yq{c:af}(hc:yj c)(h0:bS c≠0)(a:ByteArray):ga al .al n c a=some (⟨[]⟩,bS c):=by
 unfold ga il;rw[rq hn hc,aw];simp only[cw,cD];rw[bT h0];simp only[Bool.not_false,aE,aw];rw[bT h0];rfl
end
end Ab
namespace Ab
open Go
set_option maxRecDepth 10000
theorem HX: ∀(n:Nat) (l:List Int),l.Nodup→(∀x∈l,0≤x∧x<n)→l.length≤n
 |0,l,_,h=>by
  cases l with
  |nil=>simp
  |cons x r=>have:=h x (by simp);omega
 |n+1,l,hd,h=>by
  have:=HX n (l.erase (n:Int)) (hd.erase _) fun x hx=>by
   have h1:=(hd.mem_erase_iff).1 hx
   have h2:=h x h1.2
   have h3:=h1.1
   omega
  have h4:=List.length_erase (a:=(n:Int)) (l:=l)
  split at h4<;>omega
structure WI(c:af)(s:Nat)(l:List Int):Prop where
 nd:l.Nodup
 ok: ∀x∈l,0≤x∧Re c s x.toNat
def we(c:af)(l:List Int)(o:aH):List Int:=bif aL o&& !decide (find c o.name∈l)then l++[find c o.name]else l
def OL(c:af)(l:List Int)(ops:List aH):List Int:=ops.foldl (we c) l
def X7(c:af)(l:List Int)(Q6:List ah):List Int:=Q6.foldl (fun l x=>OL c l x.ops) l
section
variable{c:af}(rt:Rt c){s:Nat}(hs:s<c.ab.length)
 include hs
theorem WI.len{l:List Int}(h:WI c s l):l.length≤c.ab.length:=
 HX _ l h.nd fun x hx=>by have h1:=h.ok x hx;have:=Uz hs h1.2;omega
 include rt
structure SW(c:af)(s:Nat)(l m:List Int):Prop where
 wi:WI c s m
 pre: ∃t,m=l++t
 omit rt hs in
theorem SW.refl{l:List Int}(h:WI c s l):SW c s l l:=⟨h,[],by simp⟩
 omit rt hs in
theorem SW.trans{l m k:List Int}(h:SW c s l m)(g:SW c s m k):SW c s l k:=by
  obtain⟨t,ht⟩:=h.pre;obtain⟨u,hu⟩:=g.pre;exact⟨g.wi,t++u,by rw[hu,ht,List.append_assoc]⟩
 omit rt hs in
theorem SW.mem{l m:List Int}(h:SW c s l m){x:Int}(hx:x∈l):x∈m:=by
  obtain⟨t,ht⟩:=h.pre;rw[ht];simp[hx]
theorem Lh{i:Nat}{b:ai}(hi:c.ab[i]? =some b)(hr:Re c s i){x:ah}(hx:x∈b.ae){o:aH}(ho:o∈x.ops){l:List Int}(h:WI c s l):SW c s l (we c l o)∧(aL o=true→find c o.name∈we c l o):=by
 unfold we;cases h1:aL o with
 |false=>exact⟨.refl h,fun h=>by cases h⟩
 |true=>
  by_cases hm:find c o.name∈l
  ·rw[bH hm];exact⟨.refl h,fun _=>hm⟩
  ·rw[bT hm];obtain⟨p,hp⟩:=List.mem_iff_getElem?.1 ho;have hf:=((rt.op b (jK hi) x hx p o hp).call h1).1
   have hc:M7 c i (find c o.name).toNat:=⟨(bh.1 hi).1,x,by rw[GI hi];exact hx,o,ho,h1,by omega⟩
   refine⟨⟨⟨?_,fun y hy=>?_⟩,[find c o.name],rfl⟩,fun _=>by simp⟩
   ·rw[show(bif true&& !false then l++[find c o.name]else l)=l++[find c o.name]from rfl,List.nodup_append];refine⟨h.nd,by simp,fun a ha b hb=>?_⟩;have:b=find c o.name:=by simpa using hb
    subst this;intro e;subst e;exact hm ha
   ·rcases List.mem_append.1 hy with hy|hy
    ·exact h.ok y hy
    ·have:y=find c o.name:=by simpa using hy
     subst this;exact⟨hf,.step hr hc⟩
theorem JQ{i:Nat}{b:ai}(hi:c.ab[i]? =some b)(hr:Re c s i){x:ah}(hx:x∈b.ae): ∀(ops:List aH),(∀o∈ops,o∈x.ops)→ ∀(l:List Int),WI c s l→SW c s l (OL c l ops)∧(∀o∈ops,aL o=true→find c o.name∈OL c l ops)
 |[],_,l,h=>⟨.refl h,fun o ho=>by simp at ho⟩
 |o::r,wT,l,h=>by
  obtain⟨a1,a2⟩:=Lh rt hs hi hr hx (wT o (by simp)) h;obtain⟨b1,b2⟩:=JQ hi hr hx r (fun q hq=>wT q (by simp[hq])) _ a1.wi;refine⟨a1.trans b1,fun q hq hc=>?_⟩;rcases List.mem_cons.1 hq with hq|hq
  ·subst hq;exact b1.mem (a2 hc)
  ·exact b2 q hq hc
theorem Q5{i:Nat}{b:ai}(hi:c.ab[i]? =some b)(hr:Re c s i): ∀(Q6:List ah),(∀x∈Q6,x∈b.ae)→ ∀(l:List Int),WI c s l→SW c s l (X7 c l Q6)∧(∀x∈Q6,∀o∈x.ops,aL o=true→find c o.name∈X7 c l Q6)
 |[],_,l,h=>⟨.refl h,fun o ho=>by simp at ho⟩
 |x::r,wT,l,h=>by
  obtain⟨a1,a2⟩:=JQ rt hs hi hr (wT x (by simp)) x.ops (fun _ ho=>ho) l h;obtain⟨b1,b2⟩:=Q5 hi hr r (fun q hq=>wT q (by simp[hq])) _ a1.wi;refine⟨a1.trans b1,fun q hq o ho hc=>?_⟩;rcases List.mem_cons.1 hq with hq|hq
  ·subst hq;exact b1.mem (a2 o ho hc)
  ·exact b2 q hq o ho hc
end
section
variable{n:Nat}(hn:100<n)
 include hn
theorem Xk{l:List Int}(hl:l.length≤50)(x:Int):td al .al n l x=some (decide (x∈l)):=by
 unfold td;have:=kf (R:=Bool) (body:=oK al .al n l x fun z4=>some false) (fun r _=>some (decide (x∈r))) l (by omega) ?_ ?_ n (by omega)
 ·exact this
 ·intro self i y r hd hi e1 e2 e3 ih;simp only[oK,aw,e2,aE,e1,cD];by_cases e:y=x
  ·subst e;simp
  ·rw[bT e,aM,e3,ih];have:(x∈y::r)=(x∈r):=by simp[show¬x=y from fun h=>e h.symm]
   simp only[this]
 ·intro self e;simp only[oK,aw,e,aM];simp
variable{c:af}(rt:Rt c){s:Nat}(hs:s<c.ab.length)
 include rt hs
theorem RI{i:Nat}{b:ai}(hi:c.ab[i]? =some b)(hr:Re c s i){j:Nat}{x:ah}(hj:gI b.ae (j:Int)=some x)(K:List Int→Option (af×Int)){l:List Int}(h:WI c s l):
  iter (kG al .al n c b (j:Int) fun(_,l)=>K l) n (0,l)=K (OL c l x.ops):=by
 have qq:=rt.dL.some.2
 have Kd:=jK hi
 have hx:x∈b.ae:=by rw[dG]at hj;exact jK hj
 have hlen:=rt.ck.op b Kd x hx
 refine bJ (body:=kG al .al n c b (j:Int) fun(_,l)=>K l) (mk:=fun(a:List Int) z=>((z:Int),a)) (fun a r _=>K (OL c a r)) (fun a _=>WI c s a) x.ops (by omega) ?_ ?_ n (by omega) l h
 ·rintro self a z o r hp hd hz e1 e2 e3 ih
  have ho:x.ops[z]? =some o:=by rw[←dG];exact e1
  have hom:o∈x.ops:=jK ho
  have Xm:=hp.len hs
  have e:(⟨c.ab⟩:af)=c:=rfl
  simp only[kG,hj,aw,e2,aE,e1,CS hn,e,bZ,cw];rw[GZ (y:=find c o.name) fun _=>iC hn (by omega) _,aw,GZ (y:=decide ((bif aL o then find c o.name else default)∈a)) fun _=>Xk hn (by omega) _,aw];have er:=Lh rt hs hi hr hx hom hp
  have hL:OL c a (o::r)=OL c (we c a o) r:=rfl
  rw[hL];cases h1:aL o with
  |false=>
   have e:we c a o=a:=by unfold we;rw[h1];rfl
   rw[e];simp only[aM];rw[e3,ih _ hp]
  |true=>
   simp only[aE];by_cases hm:find c o.name∈a
   ·have e:we c a o=a:=by unfold we;rw[h1,bH hm];rfl
    rw[e,bH hm];simp only[Bool.not_true,aM];rw[e3,ih _ hp]
   ·have e:we c a o=a++[find c o.name]:=by unfold we;rw[h1,bT hm];rfl
    rw[e]at er ⊢;rw[bT hm];simp only[Bool.not_false,aE];rw[iC hn (by omega),aw,b8 (by omega) (by omega),aw,e3,ih _ er.1.wi]
 ·rintro self a hp e
  simp only[kG,hj,aw,e,aM];rfl
theorem RJ{i:Nat}{b:ai}(hi:c.ab[i]? =some b)(hr:Re c s i)(K:List Int→Option (af×Int)){l:List Int}(h:WI c s l):
  iter (kH al .al n c b fun(_,l)=>K l) n (0,l)=K (X7 c l b.ae):=by
 have Kd:=jK hi
 have Xj:=rt.ck.br b Kd
 refine bJ (body:=kH al .al n c b fun(_,l)=>K l) (mk:=fun(a:List Int) z=>((z:Int),a)) (fun a r _=>K (X7 c a r)) (fun a _=>WI c s a) b.ae (by omega) ?_ ?_ n (by omega) l h
 ·rintro self a z x r hp hd hz e1 e2 e3 ih
  have SH:x∈b.ae:=lT hd
  simp only[kH,e2,aE,aw];refine(RI hn rt hs hi hr e1 (fun vE=>self (al.wrap .i64 (al.add (z:Int) 1),vE)) hp).trans ?_;rw[e3];exact ih _ (JQ rt hs hi hr SH x.ops (fun _ ho=>ho) a hp).1.wi
 ·rintro self a hp e
  simp only[kH,aw,e,aM];rfl
def Dn(c:af)(l:List Int)(z:Nat):Prop:= ∀(p:Nat) (x:Int),p<z→l[p]? =some x→ ∀k:Nat,M7 c x.toNat k→(k:Int)∈l
theorem HL(K:List Int→Option (af×Int)): ∀(m z:Nat) (l:List Int),WI c s l→(s:Int)∈l→Dn c l z→z≤l.length→c.ab.length - z<m→ ∃l',(∀j:Nat,(j:Int)∈l'↔Re c s j)∧l'.length≤12∧iter (dX al .al n c fun(l,_)=>K l) m (l,(z:Int))=K l'
 |0,_,_,_,_,_,_,h=>absurd h (Nat.not_lt_zero _)
 |m+1,z,l,h,hsm,hd,hz,hm=>by
  have qq:=rt.dL.some.2
  have hll:=h.len hs
  by_cases aV:z<l.length
  ·obtain⟨x,hx⟩: ∃x,l[z]? =some x:=⟨l[z],fp aV⟩;have iQ:=h.ok x (jK hx)
   have hxn:=Uz hs iQ.2
   have hb:=rk hxn
   have hgx:gI l (z:Int)=some x:=by rw[dG];exact hx
   have hgb:gI c.ab x=some (bL c x.toNat):=by
    have:=wY hxn
    rwa [show((x.toNat:Nat):Int)=x by omega]at this
   have er:=Q5 rt hs hb iQ.2 (bL c x.toNat).ae (fun _ ho=>ho) l h
   have step:iter (dX al .al n c fun(l,_)=>K l) (m+1) (l,(z:Int))=iter (dX al .al n c fun(l,_)=>K l) m (X7 c l (bL c x.toNat).ae,((z+1:Nat):Int)):=by
    show dX al .al n c _ (iter _ m) (l,(z:Int))=_;simp only[dX,aw,cX,kb];rw[bH (by omega),aE,hgx,aw,hgb,aw];refine(RJ hn rt hs hb iQ.2 (fun vY=>iter (dX al .al n c fun(l,_)=>K l) m (vY,al.wrap .i64 (al.add (z:Int) 1))) h).trans ?_;rw[uH,yF,kA (by omega)]
   rw[step];obtain⟨t,ht⟩:=er.1.pre;refine HL K m (z+1) _ er.1.wi (er.1.mem hsm) (fun p y hp hy k hk=>?_) (by rw[ht];simp;omega) (by omega);have hpl:p<l.length:=by omega
   have Tw:l[p]? =some y:=by
    rw[ht,iq hpl]at hy;exact hy
   by_cases e:p=z
   ·subst e;have:y=x:=by rw[hx]at Tw;exact(oJ Tw).symm
    subst this;obtain⟨_,x2,Ik,o,ho,Is,hko⟩:=hk;rw[←hko];exact er.2 x2 Ik o ho Is
   ·exact er.1.mem (hd p y (by omega) Tw k hk)
  ·have e:z=l.length:=by omega
   refine⟨l,fun j=>⟨fun hj=>?_,fun hj=>?_⟩,by omega,?_⟩
   ·have:=(h.ok _ hj).2;rwa [Int.toNat_natCast]at this
   ·refine Fl (P:=fun j=>(j:Int)∈l) hsm (fun a k ha hk=>?_) hj;obtain⟨p,hp⟩:=List.mem_iff_getElem?.1 ha;have hpl:=(bh.1 hp).1
    exact hd p a (by omega) hp k (by rw[Int.toNat_natCast];exact hk)
   ·show dX al .al n c _ (iter _ m) (l,(z:Int))=_;simp only[dX,aw,cX,kb];rw[bT (by omega)];rfl
end
section
variable{n:Nat}(hn:100<n)
 include hn
theorem RH{c:af}(qq:c.ab.length≤12){l:List Int}(hl:l.length≤12):iter (iD al .al n c l fun(zV,z33)=>some ((⟨zV⟩:af),0)) n ([],0)=some (⟨jg (fun i=>decide ((i:Int)∈l)) 0 c.ab⟩,0):=by
 have:=bJ (body:=iD al .al n c l fun(zV,z33)=>some ((⟨zV⟩:af),0)) (mk:=fun(a:List ai) i=>(a,(i:Int))) (fun a r i=>some (⟨a++jg (fun i=>decide ((i:Int)∈l)) i r⟩,0)) (fun a i=>a.length≤i) c.ab (by omega) ?_ ?_ n (by omega) [] (Nat.le_refl _)
 ·exact this
 ·rintro self a i b r hp hd hi e1 e2 e3 ih
  simp only[iD,aw,e2,aE,e1,Xk hn (show l.length≤50 by omega)];unfold jg;cases decide ((i:Int)∈l)with
  |true=>
   simp only[aE];rw[b8 (by omega) (by omega),aw,e3,ih _ (by simp;omega)];simp
  |false=>
   simp only[aM];rw[e3,ih _ (by omega)]
 ·rintro self a hp e
  simp only[iD,aw,e,aM];simp[jg]
theorem N1{c:af}(rt:Rt c){a:ByteArray}(hf:0≤find c a){l:List Int}(hl:ac0 c (find c a).toNat l):nZ al .al n c a=some (⟨jg (fun i=>decide (l.getD i 0=1)) 0 c.ab⟩,0):=by
 have qq:=rt.dL.some.2
 have l1:find c a<c.ab.length:=gO _ _
 have hs:(find c a).toNat<c.ab.length:=by omega
 have ea:find c a=(((find c a).toNat:Nat):Int):=by omega
 unfold nZ;rw[iC hn (by omega),aw];simp only[cX];rw[bT (by omega),aM];obtain⟨l',h1,h2,h3⟩:=HL hn rt hs (fun H9=>iter (iD al .al n c H9 fun(zV,z33)=>some ((⟨zV⟩:af),0)) n ([],0)) n 0 [find c a] ⟨by simp,fun x hx=>by
  have:x=find c a:=by simpa using hx
  subst this;exact⟨hf,.base⟩⟩ (by rw[←ea];simp) (fun p x hp=>by omega) (by simp) (by omega)
 refine h3.trans ?_;rw[RH hn qq h2];have:jg (fun i=>decide ((i:Int)∈l')) 0 c.ab=jg (fun i=>decide (l.getD i 0=1)) 0 c.ab:=C5 _ _ fun j _ _=>by
  have:((j:Int)∈l')↔l.getD j 0=1:=(h1 j).trans (hl.iff j).symm
  simp only[this]
 rw[this]
theorem Jx{c:af}(hc:yj c){a:ByteArray}(hf: ¬0≤find c a):nZ al .al n c a=some (⟨[]⟩,1):=by
 have hb:=hc.bl
 unfold nZ;rw[iC hn (by omega),aw];simp only[cX];rw[bH (show find c a<0 by omega)];rfl
end
end Ab
namespace Ab
open Go
set_option maxRecDepth 10000
section
variable{n:Nat}(hn:100<n)
 include hn
end
end Ab
namespace Ab
open Go
set_option maxRecDepth 10000
section
variable{n:Nat}(hn:100<n)
 include hn
end
end Ab
namespace Ab
open Go
set_option maxRecDepth 10000
section
variable{n:Nat}(hn:100<n)
 include hn
end
end Ab
namespace Ab
open Go
set_option maxRecDepth 10000
section
variable{n:Nat}(hn:100<n)
 include hn
end
end Ab
namespace Ab
open Go
set_option maxRecDepth 10000
section
variable{n:Nat}(hn:100<n)
 include hn
end
end Ab
namespace Ab
open Go
set_option maxRecDepth 10000
section
variable{n:Nat}(hn:100<n)
 include hn
end
end Ab
namespace Ab
open Go
set_option maxRecDepth 10000
theorem HE: ∀(ops:List aH) (out:List Bool),∃t,wc out ops=out++t
 |[],out=>⟨[],by simp[wc]⟩
 |o::r,out=>by
  obtain⟨t,h⟩:=HE r (out++[pT out o]);exact⟨pT out o::t,by show wc (out++[pT out o]) r=_;rw[h];simp⟩
abbrev Td(l:List aH)(j:Nat):Bool:=(di l).getD j false
theorem EU{l m:List aH}{j:Nat}(h:j<l.length):Td (l++m) j=Td l j:=by
 obtain⟨t,ht⟩:=HE m (di l);have e:di (l++m)=di l++t:=by rw[←ht];unfold di wc;rw[List.foldl_append]
 unfold Td;rw[e,List.getD_eq_getElem?_getD,iq (by rw[sW];exact h),←List.getD_eq_getElem?_getD]
theorem NL(l:List aH)(o:aH):Td (l++[o]) l.length=pT (di l) o:=by
 have e:di (l++[o])=di l++[pT (di l) o]:=by unfold di wc;rw[List.foldl_append];rfl
 unfold Td;rw[e,List.getD_eq_getElem?_getD,ji (by rw[sW];exact Nat.le_refl _),sW];simp
theorem Uj{l:List aH}{j:Nat}{o:aH}(h:l[j]? =some o):l=(l.take j++[o])++l.drop (j+1):=by
 obtain⟨hj,he⟩:=bh.1 h;rw[List.append_assoc,List.singleton_append,←he,List.getElem_cons_drop,List.take_append_drop]
theorem Eg{l:List aH}{j i:Nat}(h:j<i):Td (l.take i) j=Td l j:=by
 rcases Nat.lt_or_ge j l.length with hj|hj
 ·have:=EU (l:=l.take i) (m:=l.drop i) (j:=j) (by simp;omega)
  rw[List.take_append_drop]at this;exact this.symm
 ·rw[List.take_of_length_le (by omega)]
theorem ET{l:List aH}{j:Nat}{o:aH}(h:l[j]? =some o):Td l j=pT (di (l.take j)) o:=by
 have hj:=(bh.1 h).1
 have e:=EU (l:=l.take j++[o]) (m:=l.drop (j+1)) (j:=j) (by simp;omega)
 rw[←Uj h]at e;have:=NL (l.take j) o
 rw[List.length_take,Nat.min_eq_left (by omega)]at this;rw[e,this]
def mo(ar kd k:Int):Int:=bif decide (k=1)then IntKind.wrap .i64 (ar - 1)else bif decide (k=2)then IntKind.wrap .i64 (kd - 1)else 0
def Wg(o:aH):Bool:=(looks o&& !decide (o.name=⟨#[]⟩))||(!looks o&& !eU o.name)
def Qq(o:aH):Bool:=(looks o&&decide (0<o.args.length))||(decide (o.kind=3)&&decide (4<o.args.length))
structure Yp(c:af)(ar kd:Int)(T:List Bool)(i:Nat)(o:aH):Prop where
 k:1≤o.kind∧o.kind≤5
 nm:Wg o=false
 num:0≤o.num∧o.num≤mo ar kd o.kind
 many:Qq o=false
 args: ∀a∈o.args,0≤a∧a<i
 call:aL o=true→0≤find c o.name∧(o.args.length:Int)=mb c (find c o.name)∧ ∀a∈o.args,T.getD a.toNat false=false
theorem ahD{c:af}{b:ai}{x:ah}{i:Nat}{o:aH}(h:CN c b x i o=0):Yp c b.aG x.aN (di (x.ops.take i)) i o:=by
 have ha:=Aj h
 unfold CN at h;obtain⟨h1,h⟩:=bz (by decide) h;obtain⟨h2,h⟩:=bz (by decide) h;obtain⟨h3,h⟩:=bz (by decide) h;obtain⟨h4,h⟩:=bz (by decide) h;obtain⟨h5,h⟩:=bz (by decide) h;simp only[Bool.or_eq_false_iff,decide_eq_false_iff_not]at h1 h3;refine⟨by omega,h2,⟨by omega,Int.not_lt.1 h3.2⟩,h4,ha,fun hc=>?_⟩;simp only[Bool.or_eq_false_iff,Bool.and_eq_false_iff,decide_eq_false_iff_not]at h5;rw[hc,Bool.not_true,aM]at h;obtain⟨h6,_⟩:=bz (by decide) h;simp only[Bool.or_eq_false_iff,Bool.not_eq_false',decide_eq_true_eq,List.any_eq_false,Bool.not_eq_true]at h6;have h7:=h5.2.resolve_left (by simp[hc])
 exact⟨by omega,h6.1,h6.2⟩
theorem afP{c:af}{b:ai}{x:ah}{i:Nat}{o:aH}(h:Yp c b.aG x.aN (di (x.ops.take i)) i o):CN c b x i o=0:=by
 have h1:(decide (o.kind<1)||decide (5<o.kind))=false:=by have:=h.k;simp;omega
 have h2:=h.nm
 have h3:(decide (o.num<0)||decide (DH b x o<o.num))=false:=by
  have h':o.num≤DH b x o:=h.num.2
  have:=h.num.1
  simp;omega
 have h4:=h.many
 have h5:o.args.all (before i)=true:=List.all_eq_true.2 fun a ha=>by have:=h.args a ha;simp[before,this]
 unfold Wg at h2;unfold Qq at h4;unfold CN;rw[h1,h2,h3,h4,h5];simp only[aM,Bool.not_true,Bool.false_or];cases hc:aL o with
 |false=>rfl
 |true=>
  obtain⟨g1,g2,g3⟩:=h.call hc;have h6:(o.args.any fun a=>(di (x.ops.take i)).getD a.toNat false)=false:=by
   rw[List.any_eq_false];intro a ha;rw[g3 a ha];simp
  rw[h6,bH g2,bT (by omega)];rfl
structure ac2(c:af)(b:ai)(x y:ah):Prop where
 head:y.head=x.head
 aN:y.aN=x.aN
 len:1≤y.ops.length∧y.ops.length≤60
 res:0≤y.result∧y.result<y.ops.length
 ops: ∀(j:Nat) (q:aH),y.ops[j]? =some q→Yp c b.aG x.aN (di (y.ops.take j)) j q
theorem Yp.ar{c:af}(rt:Rt c){ar kd:Int}{T:List Bool}{i:Nat}{o:aH}(h:Yp c ar kd T i o):o.args.length≤4:=by
 have hk:=h.k
 have hm:=h.many
 unfold Qq looks at hm;simp only[Bool.or_eq_false_iff,Bool.and_eq_false_iff,decide_eq_false_iff_not]at hm;rcases Int.lt_or_le o.kind 4 with h4|h4
 ·rcases hm.1 with h5|h5
  ·have:=hm.2.resolve_left (by omega);omega
  ·omega
 ·have hc:aL o=true:=by unfold aL;rw[←Bool.decide_or];exact bH (by omega)
  obtain⟨h1,h2,_⟩:=h.call hc;obtain⟨_,h4,h5⟩:=Yc h1;have:=(rt.bl _ h4).ar
  omega
theorem HV{c:af}{b:ai}{x:ah}: ∀{r:List aH} {i:Nat},(∀(j:Nat) (o:aH),r[j]? =some o→CN c b x (i+j) o=0)→hZ c b x i r=none
 |[],i,_=>rfl
 |p::r,i,h=>by
  simp only[hZ];rw[bH (show CN c b x i p=0 from h 0 p rfl),aE];exact HV fun j o ho=>by have:=h (j+1) o (by simpa using ho);rwa [show i+(j+1)=i+1+j by omega]at this
section
variable{c:af}{F:ah→ah}
theorem MI(s:ByteArray):find ⟨c.ab.map (fH F)⟩ s=find c s:=by
 unfold find iI;rw[List.findIdx?_map];rfl
theorem S9(z:Int):mb ⟨c.ab.map (fH F)⟩ z=mb c z:=by
 unfold mb;simp only[List.getElem?_map,Option.map_map];rfl
theorem HY: ∀(r:List ai) (i:Nat),my ⟨c.ab.map (fH F)⟩ i (r.map (fH F))=my c i r
 |[],i=>rfl
 |b::r,i=>by simp only[List.map_cons,my,MI,HY r];rfl
theorem zK{l:List ah}{p:ah→Bool}(h: ∀x∈l,p (F x)=p x):(l.map F).all p=l.all p:=by
 induction l with
 |nil=>rfl
 |cons x r ih=>simp only[List.map_cons,List.all_cons,h x (by simp),ih fun y hy=>h y (by simp[hy])]
theorem PH{l:List ah}{p:ah→Bool}(h: ∀x∈l,p (F x)=p x):(l.map F).any p=l.any p:=by
 induction l with
 |nil=>rfl
 |cons x r ih=>simp only[List.map_cons,List.any_cons,h x (by simp),ih fun y hy=>h y (by simp[hy])]
theorem RK{b:ai}(h:jy b=0)(hF: ∀x∈b.ae,ac2 c b x (F x)):jy (fH F b)=0:=by
 have hk: ∀x∈b.ae,nc (F x)=nc x:=fun x hx=>by unfold nc;rw[(hF x hx).aN]
 have hn: ∀x∈b.ae,fG (F x)=fG x:=fun x hx=>by unfold fG;rw[(hF x hx).head]
 have hh: ∀x∈b.ae,nf (F x)=nf x:=fun x hx=>by unfold nf;rw[hn x hx,(hF x hx).head]
 have Xm: ∀(m:Nat),∀x∈b.ae,alone m (F x)=alone m x:=fun m x hx=>by unfold alone;rw[hn x hx,(hF x hx).aN]
 have hlen:(b.ae.map F).all r6=true:=by
  rw[List.all_eq_true];intro y hy;obtain⟨x,hx,rfl⟩:=List.mem_map.1 hy;have:=(hF x hx).len
  simp[r6];omega
 have tH:(b.ae.map F).map vO=b.ae.map vO:=by
  rw[List.map_map];exact List.map_congr_left fun x hx=>by unfold vO;simp[(hF x hx).aN,(hF x hx).head]
 have auh:dup [] (b.ae.map F)=dup [] b.ae:=by
  have h1:=A9 (b.ae.map F) [] (by simp)
  have h2:=A9 b.ae [] (by simp)
  simp only[List.nil_append,tH]at h1 h2;rw[←h2]at h1;exact Bool.eq_iff_iff.2 h1
 unfold jy at h;obtain⟨h1,h⟩:=bz (by decide) h;simp only[Bool.or_eq_false_iff]at h1;unfold jy;show(bif decide ((b.ae.map F).length<1)||decide (6<(b.ae.map F).length)|| !(b.ae.map F).all r6 then(2:Int)
  else bif decide (b.aG<0)||decide (4<b.aG)|| !(b.ae.map F).all nc then 3
  else bif !eU b.name|| !(b.ae.map F).all nf then 4
  else bif (b.ae.map F).any (alone (b.ae.map F).length)||(decide (b.aG=0)&& !(b.ae.map F).all fG)then 7
  else bif dup [] (b.ae.map F)then 5 else 0)=0
 rw[hlen,List.length_map,zK hk,zK hh,PH (Xm _),zK hn,auh,h1.1.1,h1.1.2];exact h
theorem uG(rt:Rt c)(hF: ∀b∈c.ab,∀x∈b.ae,ac2 c b x (F x)):yj ⟨c.ab.map (fH F)⟩∧bS ⟨c.ab.map (fH F)⟩=0:=by
 have yb: ∀b∈c.ab,∀x∈b.ae,hZ ⟨c.ab.map (fH F)⟩ (fH F b) (F x) 0 (F x).ops=none:=fun b hb x hx=>HV fun j o ho=>by
  rw[Nat.zero_add];have h:=(hF b hb x hx).ops j o ho
  refine afP ⟨h.k,h.nm,?_,h.many,h.args,fun hc=>?_⟩
  ·rw[(hF b hb x hx).aN];exact h.num
  ·rw[MI,S9];exact h.call hc
 have hbl:=rt.dL.some
 refine⟨⟨by have:=rt.ck.bl;simpa using this,fun b' hb=>?_,fun b' hb x' hx=>?_,fun b' hb x' hx o ho=>?_⟩,?_⟩
 ·obtain⟨b,gb,rfl⟩:=List.mem_map.1 hb;have:=rt.ck.br b gb
  show(b.ae.map F).length≤16;simpa using this
 ·obtain⟨b,gb,rfl⟩:=List.mem_map.1 hb;obtain⟨x,gx,rfl⟩:=List.mem_map.1 (show x'∈b.ae.map F from hx);have:=(hF b gb x gx).len
  omega
 ·obtain⟨b,gb,rfl⟩:=List.mem_map.1 hb;obtain⟨x,gx,rfl⟩:=List.mem_map.1 (show x'∈b.ae.map F from hx);obtain⟨j,hj⟩:=List.getElem?_of_mem ho;have:=((hF b gb x gx).ops j o hj).ar rt
  omega
 ·unfold bS;have h0:(decide ((c.ab.map (fH F)).length<1)||decide (12<(c.ab.map (fH F)).length))=false:=by rw[List.length_map,bT (by omega),bT (by omega)];rfl
  have h1:(c.ab.map (fH F)).findSome? fA=none:=List.findSome?_eq_none_iff.2 fun b' hb=>by
   obtain⟨b,gb,rfl⟩:=List.mem_map.1 hb;unfold fA;rw[RK (rt.dL.right b gb) (hF b gb)];rfl
  have h2:((c.ab.map (fH F)).findSome? fun b=>b.ae.findSome? (mJ ⟨c.ab.map (fH F)⟩ b))=none:=List.findSome?_eq_none_iff.2 fun b' hb=>by
   obtain⟨b,gb,rfl⟩:=List.mem_map.1 hb;refine List.findSome?_eq_none_iff.2 fun x' hx=>?_;obtain⟨x,gx,rfl⟩:=List.mem_map.1 (show x'∈b.ae.map F from hx);unfold mJ;have ya:=(hF b gb x gx).res
   have hr:ur (F x)=false:=by unfold ur;simp;omega
   rw[yb b gb x gx,hr];rfl
  dsimp only;rw[h0,h1,HY,rt.dL.names,h2];rfl
end
end Ab
namespace Ab
open Go
set_option maxRecDepth 10000
def zR(c:af)(ar kd:Int)(out:List aH):Prop:= ∀(j:Nat) (q:aH),out[j]? =some q→Yp c ar kd (di (out.take j)) j q
theorem zR.app{c:af}{ar kd:Int}{out:List aH}(h:zR c ar kd out){o:aH}(ho:Yp c ar kd (di out) out.length o):zR c ar kd (out++[o]):=fun j q hq=>by
 rcases Nat.lt_or_ge j out.length with hj|hj
 ·rw[iq hj]at hq;rw[List.take_append_of_le_length (by omega)];exact h j q hq
 ·have:j=out.length:=by have:=(bh.1 hq).1;simp at this;omega
  subst this;simp at hq;subst hq;rw[List.take_left']
  ·exact ho
  ·rfl
structure Std(l out:List aH)(s:Nat)(v:Int):Prop where
 r:0≤v∧v<out.length
 t:Td l s=false→Td out v.toNat=false
theorem Std.more{l out:List aH}{s:Nat}{v:Int}(h:Std l out s v)(m:List aH):Std l (out++m) s v:=
 ⟨by have:=h.r;simp;omega,fun ht=>by have:=h.r;rw[EU (by omega)];exact h.t ht⟩
structure Inv(c:af)(b:ai)(x:ah)(R:Nat→Prop)(i:Nat)(st:List aH×List Int):Prop where
 len:st.2.length=i
 ok:zR c b.aG x.aN st.1
 sl: ∀s,s<i→R s→Std x.ops st.1 s (st.2.getD s 0)
 room:st.1.length+(x.ops.length - i)≤60
theorem Inv.ext{c:af}{b:ai}{x:ah}{R:Nat→Prop}{i:Nat}{st:List aH×List Int}(h:Inv c b x R i st){m:List aH}{v:Int}(iQ:zR c b.aG x.aN (st.1++m))(hv:R i→Std x.ops (st.1++m) i v)(hr:(st.1++m).length+(x.ops.length - (i+1))≤60):
  Inv c b x R (i+1) (st.1++m,st.2++[v]):=by
 refine⟨by simp[h.len],iQ,fun s hs hR=>?_,hr⟩;rcases Nat.lt_or_ge s i with hj|hj
 ·have:=(h.sl s hj hR).more m
  rw[show(st.2++[v]).getD s 0=st.2.getD s 0 by rw[List.getD_eq_getElem?_getD,iq (by rw[h.len];exact hj),←List.getD_eq_getElem?_getD]];exact this
 ·have:s=i:=by omega
  subst this;have hl:=h.len
  rw[show(st.2++[v]).getD s 0=v by subst hl;simp];exact hv hR
theorem Sm(sl:List Int)(o:aH):looks (tl sl o)=looks o:=rfl
theorem OR{c:af}{ar kd:Int}{l out:List aH}{sl:List Int}{i:Nat}{o:aH}(ho:l[i]? =some o)(hz:Yp c ar kd (di (l.take i)) i o)(hs: ∀a∈o.args,Std l out a.toNat (sl.getD a.toNat 0)):
  Yp c ar kd (di out) out.length (tl sl o)∧(Td l i=false→pT (di out) (tl sl o)=false):=by
 have hlen:(tl sl o).args.length=o.args.length:=Fb sl o.args
 refine⟨⟨hz.k,hz.nm,hz.num,?_,fun a ha=>?_,fun hc=>?_⟩,fun ht=>?_⟩
 ·have:=hz.many;unfold Qq at this ⊢;rw[Sm,hlen];exact this
 ·obtain⟨z,vF,rfl⟩:=List.mem_map.1 ha;have:=(hs z vF).r
  exact this
 ·obtain⟨g1,g2,g3⟩:=hz.call hc;refine⟨g1,by rw[hlen];exact g2,fun a ha=>?_⟩;obtain⟨z,vF,rfl⟩:=List.mem_map.1 ha;have hzi:=hz.args z vF
  exact(hs z vF).t (by rw[←Eg (l:=l) (i:=i) (by omega)];exact g3 z vF)
 ·rw[ET ho]at ht;unfold pT at ht ⊢;simp only[Bool.or_eq_false_iff,Bool.and_eq_false_iff,decide_eq_false_iff_not]at ht ⊢;refine⟨ht.1,?_⟩;rcases ht.2 with h3|h3
  ·exact .inl h3
  ·refine .inr ?_;rw[List.any_eq_false]at h3 ⊢;intro a ha;obtain⟨z,vF,rfl⟩:=List.mem_map.1 ha;have hzi:=hz.args z vF
   have:=h3 z vF
   rw[Bool.not_eq_true]at this ⊢;exact(hs z vF).t (by rw[←Eg (l:=l) (i:=i) (by omega)];exact this)
theorem Inv.add{c:af}{b:ai}{x:ah}{R:Nat→Prop}{i:Nat}{st:List aH×List Int}(h:Inv c b x R i st){o:aH}(ho:x.ops[i]? =some o)(hz:Yp c b.aG x.aN (di (x.ops.take i)) i o)(hR: ∀a∈o.args,R a.toNat):
  Inv c b x R (i+1) (st.1++[tl st.2 o],st.2++[(st.1.length:Int)]):=by
 obtain⟨h1,h2⟩:=OR (sl:=st.2) (out:=st.1) ho hz fun a ha=>h.sl _ (by have:=hz.args a ha;omega) (hR a ha);have hi:=(bh.1 ho).1
 refine h.ext (h.ok.app h1) (fun _=>⟨⟨by omega,by simp;omega⟩,fun ht=>?_⟩) (by have:=h.room;simp;omega);rw[Int.toNat_natCast,NL];exact h2 ht
theorem Pn{c:af}{b:ai}{x y:ah}{R:Nat→Prop}{st:List aH×List Int}(h:Inv c b x R x.ops.length st)(hx:ua x)(hR:R x.result.toNat)(h1:y.head=x.head)(h2:y.aN=x.aN)(h3:y.ops=st.1)(h4:y.result=st.2.getD x.result.toNat 0):ac2 c b x y:=by
 have ya:=hx.res
 have hs:=(h.sl _ (by omega) hR).r
 have tG:=h.room
 refine⟨h1,h2,by rw[h3];omega,by rw[h3,h4];exact hs,by rw[h3];exact h.ok⟩
theorem aii{c:af}{b:ai}{x:ah}{R:Nat→Prop}(h:x.ops.length≤60):Inv c b x R 0 ([],[]):=
 ⟨rfl,fun j q hq=>by simp at hq,fun s hs=>absurd hs (Nat.not_lt_zero _),by simpa using h⟩
theorem Rt.z{c:af}(rt:Rt c){b:ai}(hb:b∈c.ab){x:ah}(hx:x∈b.ae):zR c b.aG x.aN x.ops:=fun j q hq=>by
 have:=oP (rt.dL.ops b hb x hx).1 j q hq
 rw[Nat.zero_add]at this;exact ahD this
theorem Fc{c:af}{b:ai}{x:ah}(hz:zR c b.aG x.aN x.ops): ∀(r:List aH) (i:Nat) (st:List aH×List Int),x.ops.drop i=r→i≤x.ops.length→Inv c b x (fun _=>True) i st→Inv c b x (fun _=>True) x.ops.length (Fe r st)
 |[],i,st,hd,hi,h=>by
  have Ni:x.ops.length≤i:=by simpa using hd
  have:i=x.ops.length:=by omega
  subst this;exact h
 |o::r,i,st,hd,hi,h=>by
  have ho:x.ops[i]? =some o:=by rw[←dG];exact sr hd
  have aV:=(bh.1 ho).1
  have nN:x.ops.drop (i+1)=r:=by rw[←List.drop_drop,hd];rfl
  unfold Fe;refine Fc hz r (i+1) _ nN aV ?_;cases hc:decide (0≤iI (fun q=>decide (q=tl st.2 o)) st.1)with
  |false=>exact h.add ho (hz i o ho) fun _ _=>trivial
  |true=>
   have Ni:0≤iI (fun q=>decide (q=tl st.2 o)) st.1:=of_decide_eq_true hc
   obtain⟨v,hv⟩: ∃v:Nat,iI (fun q=>decide (q=tl st.2 o)) st.1=(v:Int):=⟨_,(EV Ni).symm⟩;rw[hv,aE];have Bv:st.1[v]? =some (tl st.2 o):=by
    unfold iI at hv;cases hf:st.1.findIdx? (fun q=>decide (q=tl st.2 o))with
    |none=>rw[hf]at hv;dsimp only at hv;omega
    |some k=>
     rw[hf]at hv;obtain⟨k1,k2,_⟩:=List.findIdx?_eq_some_iff_getElem.1 hf;have:k=v:=by dsimp only at hv;omega
     subst this;rw[fp k1,of_decide_eq_true k2]
   have hvl:=(bh.1 Bv).1
   have:=h.ext (m:=[]) (v:=(v:Int)) (by rw[List.append_nil];exact h.ok) (fun _=>⟨⟨by omega,by simp;omega⟩,fun ht=>?_⟩) (by have:=h.room;simp;omega)
   ·rw[List.append_nil]at this;exact this
   ·rw[List.append_nil,Int.toNat_natCast,ET Bv];obtain⟨h1,h2⟩:=OR (sl:=st.2) (out:=st.1) ho (hz i o ho) fun a ha=>h.sl _ (by have:=(hz i o ho).args a ha;omega) trivial;have h2:=h2 ht
    have h3:=(h.ok v _ Bv).args
    unfold pT at h2 ⊢;simp only[Bool.or_eq_false_iff,Bool.and_eq_false_iff,decide_eq_false_iff_not]at h2 ⊢;refine⟨h2.1,h2.2.imp id fun h4=>?_⟩;rw[List.any_eq_false]at h4 ⊢;intro a ha;have:=h4 a ha
    rw[Bool.not_eq_true]at this ⊢;exact(Eg (l:=st.1) (i:=v) (by have:=h3 a ha;omega)).trans this
theorem CL{c:af}(rt:Rt c):yj ⟨c.ab.map (fH NU)⟩∧bS ⟨c.ab.map (fH NU)⟩=0:=
 uG rt fun b hb x hx=>Pn (Fc (rt.z hb hx) x.ops 0 ([],[]) rfl (Nat.zero_le _) (aii ((rt.bl b hb).len x hx))) (rt.dL.x rt.ck hb hx) trivial rfl rfl rfl rfl
theorem AI(u:Bool): ∀(args:List Int) (l:List Bool) (j:Nat),On l j→On (qc u args l) j
 |[],l,j,h=>h
 |a::r,l,j,h=>by
  refine AI u r (l.set a.toNat (l.getD a.toNat false||u)) j ?_;unfold On at h ⊢;rw[oY]
  split
  ·rename_i hh;rw[hh.1,h];rfl
  ·exact h
theorem Me: ∀(args:List Int) (l:List Bool) (a:Int),a∈args→a.toNat<l.length→On (qc true args l) a.toNat
 |[],l,a,h,_=>by simp at h
 |b::r,l,a,h,hl=>by
  rcases List.mem_cons.1 h with h|h
  ·subst h;refine AI true r (l.set a.toNat (l.getD a.toNat false||true)) _ ?_;unfold On;rw[oY,if_pos ⟨rfl,hl⟩,Bool.or_true]
  ·exact Me r (l.set b.toNat (l.getD b.toNat false||true)) a h (by simpa using hl)
theorem zj(u:Bool): ∀(args:List Int) (l:List Bool) (j:Nat),(∀a∈args,a.toNat≠j)→(qc u args l).getD j false=l.getD j false
 |[],l,j,_=>rfl
 |a::r,l,j,h=>by
  refine(zj u r (l.set a.toNat (l.getD a.toNat false||u)) j fun b hb=>h b (by simp[hb])).trans ?_;rw[oY,if_neg (fun hh=>h a (by simp) hh.1)]
theorem EN(x:ah): ∀(i:Nat) (l:List Bool) (j:Nat),On l j→On (v8 x i l) j
 |0,l,j,h=>h
 |i+1,l,j,h=>by
  unfold v8;cases ho:x.ops[i]? with
  |none=>exact h
  |some o=>
   dsimp only;refine EN x i _ j (AI _ _ _ j ?_);unfold On at h ⊢;rw[oY]
   split
   ·rename_i hh;rw[hh.1,h];rfl
   ·exact h
theorem Ld(x:ah)(hx: ∀(i:Nat) (o:aH),x.ops[i]? =some o→ ∀a∈o.args,0≤a∧a<i): ∀(i:Nat) (l:List Bool) (j:Nat),i≤j→(v8 x i l).getD j false=l.getD j false
 |0,l,j,_=>rfl
 |i+1,l,j,h=>by
  unfold v8;cases ho:x.ops[i]? with
  |none=>rfl
  |some o=>
   dsimp only;rw[Ld x hx i _ j (by omega),zj _ _ _ _ (fun a ha=>by have:=hx i o ho a ha;omega),oY,if_neg (by omega)]
theorem EO(x:ah)(hx: ∀(i:Nat) (o:aH),x.ops[i]? =some o→ ∀a∈o.args,0≤a∧a<i): ∀(i:Nat) (l:List Bool),i≤x.ops.length→l.length=x.ops.length→ ∀(j:Nat) (o:aH),j<i→x.ops[j]? =some o→On (v8 x i l) j→ ∀a∈o.args,On (v8 x i l) a.toNat
 |0,l,_,hl,j,o,h,_,_=>absurd h (Nat.not_lt_zero _)
 |i+1,l,hil0,hl,j,o,h,ho,SK=>by
  unfold v8 at SK ⊢;cases hi:x.ops[i]? with
  |none=>have:=List.getElem?_eq_none_iff.1 hi;omega
  |some p=>
   rw[hi]at SK;dsimp only at SK ⊢;have hil:=(bh.1 hi).1
   generalize hu:(l.getD i false||decide ((i:Int)=x.result)||aL p)=u at SK ⊢;rcases Nat.lt_or_ge j i with hj|hj
   ·exact EO x hx i _ (by omega) (by rw[xJ,List.length_set,hl]) j o hj ho SK
   ·have:j=i:=by omega
    subst this;rw[hi]at ho;cases ho;intro a ha;have haj:=hx j _ hi a ha
    have h1:On (qc u o.args (l.set j u)) j:=by
     unfold On at SK ⊢;rwa [Ld x hx j _ j (Nat.le_refl _)]at SK
    have h2:u=true:=by
     unfold On at h1;rw[zj _ _ _ _ (fun a ha=>by have:=hx j _ hi a ha;omega),oY,if_pos ⟨rfl,by omega⟩]at h1;exact h1
    rw[h2];exact EN x j _ _ (Me _ _ a ha (by simp;omega))
theorem NI{x:ah}(hx:ua x){j:Nat}{o:aH}(ho:x.ops[j]? =some o)(h:On (Ae x) j): ∀a∈o.args,On (Ae x) a.toNat:=
 EO x hx.args _ _ (Nat.le_refl _) (by simp) j o (bh.1 ho).1 ho h
theorem Hz(x:ah): ∀(i:Nat) (l:List Bool) (j:Nat),j<i→(j:Int)=x.result→i≤l.length→i≤x.ops.length→On (v8 x i l) j
 |0,l,j,h,_,_,_=>absurd h (Nat.not_lt_zero _)
 |i+1,l,j,h,hr,hl,hi=>by
  unfold v8;rw[fp (by omega)];dsimp only;rcases Nat.lt_or_ge j i with hj|hj
  ·exact Hz x i _ j hj hr (by rw[xJ,List.length_set];omega) (by omega)
  ·have:j=i:=by omega
   subst this;refine EN x j _ _ (AI _ _ _ j ?_);unfold On;rw[oY,if_pos ⟨rfl,by omega⟩,bH hr,Bool.or_true,Bool.true_or]
theorem Rw{x:ah}(hx:ua x):On (Ae x) x.result.toNat:=by
 have:=hx.res
 exact Hz x _ _ _ (by omega) (EV this.1) (by simp) (Nat.le_refl _)
theorem Iz{c:af}{b:ai}{x:ah}(hx:ua x)(hz:zR c b.aG x.aN x.ops): ∀(r:List aH) (i:Nat) (st:List aH×List Int),x.ops.drop i=r→i≤x.ops.length→Inv c b x (On (Ae x)) i st→Inv c b x (On (Ae x)) x.ops.length (MQ (Ae x) r i st)
 |[],i,st,hd,hi,h=>by
  have Ni:x.ops.length≤i:=by simpa using hd
  have:i=x.ops.length:=by omega
  subst this;exact h
 |o::r,i,st,hd,hi,h=>by
  have ho:x.ops[i]? =some o:=by rw[←dG];exact sr hd
  have aV:=(bh.1 ho).1
  have nN:x.ops.drop (i+1)=r:=by rw[←List.drop_drop,hd];rfl
  unfold MQ;refine Iz hx hz r (i+1) _ nN aV ?_;cases hc:(Ae x).getD i false with
  |true=>exact h.add ho (hz i o ho) (NI hx ho hc)
  |false=>
   have:=h.ext (m:=[]) (v:=0) (by rw[List.append_nil];exact h.ok) (fun hh=>by unfold On at hh;rw[hc]at hh;cases hh) (by have:=h.room;simp;omega)
   rw[List.append_nil]at this;exact this
theorem Gt{c:af}(rt:Rt c):yj ⟨c.ab.map (fH XQ)⟩∧bS ⟨c.ab.map (fH XQ)⟩=0:=
 uG rt fun b hb x hx=>Pn (Iz (rt.dL.x rt.ck hb hx) (rt.z hb hx) x.ops 0 ([],[]) rfl (Nat.zero_le _) (aii ((rt.bl b hb).len x hx))) (rt.dL.x rt.ck hb hx) (Rw (rt.dL.x rt.ck hb hx)) rfl rfl rfl rfl
theorem qE{l:List aH}{j i:Nat}(h:j<i):(di (l.take i)).getD j false=Td l j:=Eg h
theorem zm(nd:List Bool): ∀(r:List aH) (i j:Nat),(pE nd r i)[j]? =(r[j]?).map (zl nd (i+j))
 |[],i,j=>by simp[pE]
 |o::r,i,0=>by simp[pE]
 |o::r,i,j+1=>by simp only[pE,List.getElem?_cons_succ,zm nd r (i+1) j];rw[show i+1+j=i+(j+1)by omega]
theorem BV{T:List Bool}{o:aH}(h:pT T o=false):o.kind≠5∧(o.kind=3→ ∀a∈o.args,T.getD a.toNat false=false):=by
 unfold pT at h;simp only[Bool.or_eq_false_iff,Bool.and_eq_false_iff,decide_eq_false_iff_not]at h;refine⟨h.1,fun h3 a ha=>?_⟩;have:=List.any_eq_false.1 (h.2.resolve_left (by simp[h3])) a ha
 simpa using this
theorem HB{T:List Bool}{o:aH}(h5:o.kind≠5)(h:o.kind=3→ ∀a∈o.args,T.getD a.toNat false=false):pT T o=false:=by
 unfold pT;simp only[Bool.or_eq_false_iff,Bool.and_eq_false_iff,decide_eq_false_iff_not];refine⟨h5,?_⟩;by_cases h3:o.kind=3
 ·exact .inr (List.any_eq_false.2 fun a ha=>by rw[h h3 a ha];simp)
 ·exact .inl h3
theorem L7{c:af}{ar kd:Int}{x:ah}(hz:zR c ar kd x.ops){j:Nat}(h:Ht x j):Td x.ops j=false:=by
 induction h with
 |call ho hc ha=>
  have hzo:=hz _ _ ho
  have:=(hzo.call hc).2.2 _ ha
  rwa [qE (by have:=hzo.args _ ha;omega)]at this
 |node hi ho hk ha ih=>
  rw[ET ho]at ih;have:=(BV ih).2 hk _ ha
  rwa [qE (by have:=(hz _ _ ho).args _ ha;omega)]at this
theorem WE{x:ah}{j:Nat}{q:aH}(h:(pE (wJ x) x.ops 0)[j]? =some q): ∃o,x.ops[j]? =some o∧q=zl (wJ x) j o:=by
 rw[zm,Nat.zero_add]at h;obtain⟨o,ho,hq⟩:=Option.map_eq_some_iff.1 h;exact⟨o,ho,hq.symm⟩
theorem FO(nd:List Bool)(j:Nat)(o:aH):(zl nd j o=o∧(o.kind=4→nd.getD j false=true))∨(o.kind=4∧nd.getD j false=false∧zl nd j o=⟨5,o.name,o.num,o.args⟩):=by
 unfold zl;by_cases h:o.kind=4
 ·cases hn:nd.getD j false with
  |true=>left;simp
  |false=>right;exact⟨h,rfl,by simp[h]⟩
 ·left;exact⟨by simp[h],fun hh=>absurd hh h⟩
theorem AL{c:af}{ar kd:Int}{x:ah}(hx:ua x)(hz:zR c ar kd x.ops): ∀(k j:Nat),j<k→Ht x j→j<x.ops.length→Td (pE (wJ x) x.ops 0) j=false
 |0,j,h,_,_=>absurd h (Nat.not_lt_zero _)
 |k+1,j,h,hn,hl=>by
  obtain⟨o,ho⟩: ∃o,x.ops[j]? =some o:=⟨_,fp hl⟩;have hq:(pE (wJ x) x.ops 0)[j]? =some (zl (wJ x) j o):=by rw[zm,Nat.zero_add,ho];rfl
  rw[ET hq];have hu:=L7 hz hn
  rw[ET ho]at hu;obtain⟨h5,_⟩:=BV hu;have SK:(wJ x).getD j false=true:=(Wi hx j).2 hn
  rcases FO (wJ x) j o with⟨e,_⟩|⟨_,e,_⟩
  ·rw[e];refine HB h5 fun h3 a ha=>?_;have haj:=hx.args j o ho a ha
   rw[qE (by omega)];exact AL hx hz k a.toNat (by omega) (.node hn ho h3 ha) (by omega)
  ·rw[SK]at e;cases e
theorem O0{c:af}{b:ai}{x:ah}(hx:ua x)(hl:x.ops.length≤60)(hz:zR c b.aG x.aN x.ops):ac2 c b x (AK x):=by
 have hlen:(AK x).ops.length=x.ops.length:=FP _ _ _
 have ya:=hx.res
 refine⟨rfl,rfl,by rw[hlen];omega,by rw[hlen];exact ya,fun j q hq=>?_⟩;obtain⟨o,ho,rfl⟩:=WE hq;have h:=hz j o ho
 have hj:=(bh.1 ho).1
 have jI:aL o=true→ ∀a∈o.args,(di ((pE (wJ x) x.ops 0).take j)).getD a.toNat false=false:=fun hc a ha=>by
  have haj:=h.args a ha
  rw[qE (by omega)];exact AL hx hz _ a.toNat (Nat.lt_succ_self _) (.call ho hc ha) (by omega)
 rcases FO (wJ x) j o with⟨e,_⟩|⟨h4,_,e⟩
 ·rw[e];exact⟨h.k,h.nm,h.num,h.many,h.args,fun hc=>⟨(h.call hc).1,(h.call hc).2.1,jI hc⟩⟩
 ·rw[e];have hc:aL o=true:=by unfold aL;rw[h4];rfl
  have YU:=h.nm
  have Pa:=h.num
  unfold Wg looks at YU;rw[h4]at YU Pa;exact⟨⟨by show(1:Int)≤5;decide,by show(5:Int)≤5;decide⟩,YU,Pa,rfl,h.args,fun _=>⟨(h.call hc).1,(h.call hc).2.1,jI hc⟩⟩
theorem AJ{c:af}(rt:Rt c):yj ⟨c.ab.map (fH AK)⟩∧bS ⟨c.ab.map (fH AK)⟩=0:=
 uG rt fun b hb x hx=>O0 (rt.dL.x rt.ck hb hx) ((rt.bl b hb).len x hx) (rt.z hb hx)
structure ako(c:af)(out:List aH)(args:List Int)(y:ah):Prop where
 B: ∃B,B∈c.ab∧y∈B.ae∧(args.length:Int)=B.aG
 pl:FC y=true
 kd:0<y.aN→0<args.length∧(out.getD (args.getD 0 0).toNat default).kind=3∧y.aN=((out.getD (args.getD 0 0).toNat default).args.length:Int)
structure InZ(c:af)(ar kd:Int)(out:List aH)(st:List aH×List Int)(i:Nat):Prop where
 len:st.2.length=i
 ok:zR c ar kd st.1
 sl: ∀v∈st.2,(0≤v∧v<st.1.length)∧Td st.1 v.toNat=false
 pre: ∃m,st.1=out++m
theorem Ar{y:ah}(hp:FC y=true)(hx:ua y): ∀(k j:Nat),j<k→j<y.ops.length→Td y.ops j=false
 |0,j,h,_=>absurd h (Nat.not_lt_zero _)
 |k+1,j,h,hl=>by
  obtain⟨o,ho⟩: ∃o,y.ops[j]? =some o:=⟨_,fp hl⟩;rw[ET ho];have:=List.all_eq_true.1 hp o (jK ho)
  refine HB (fun h5=>by rw[aL,h5]at this;simp at this) fun h3 a ha=>?_;have haj:=hx.args j o ho a ha
  rw[qE (by omega)];exact Ar hp hx k a.toNat (by omega) (by omega)
theorem InZ.push{c:af}{ar kd:Int}{out:List aH}{st:List aH×List Int}{i:Nat}(h:InZ c ar kd out st i){v:Int}(hv:(0≤v∧v<st.1.length)∧Td st.1 v.toNat=false):InZ c ar kd out (st.1,st.2++[v]) (i+1):=
 ⟨by simp[h.len],h.ok,fun w hw=>by
  rcases List.mem_append.1 hw with hw|hw
  ·exact h.sl w hw
  ·rw[List.mem_singleton.1 hw];exact hv,h.pre⟩
section
variable{c:af}{b:ai}{x:ah}{out:List aH}{args:List Int}{y:ah}
theorem RA{ar kd:Int}(rt:Rt c)(hp:ako c out args y)(iQ:zR c ar kd out)(ha: ∀a∈args,(0≤a∧a<out.length)∧Td out a.toNat=false){st:List aH×List Int}{i:Nat}(h:InZ c ar kd out st i){q:aH}(hq:y.ops[i]? =some q):InZ c ar kd out (Qa args q st) (i+1):=by
 obtain⟨B,hB,hy,hl⟩:=hp.B;obtain⟨m,hm⟩:=h.pre;have hz:=rt.z hB hy i q hq
 have Y5:=(rt.bl B hB).ar
 have QJ:=(rt.bl B hB).aN y hy
 have hgx:=rt.dL.x rt.ck hB hy
 have air:=List.all_eq_true.1 hp.pl q (jK hq)
 have Pa:=hz.num
 have up: ∀{v:Int},((0≤v∧v<out.length)∧Td out v.toNat=false)→(0≤v∧v<st.1.length)∧Td st.1 v.toNat=false:=fun{v} hv=>by
  rw[hm,EU (by omega)];exact⟨by simp;omega,hv.2⟩
 unfold Qa;by_cases h1:q.kind=1
 ·rw[bH h1,aE];rw[h1,show mo B.aG y.aN 1=IntKind.wrap .i64 (B.aG - 1)from rfl,jB (by omega)]at Pa;exact h.push (up (ha _ (tN (by omega))))
 ·rw[bT h1,aM];by_cases h2:q.kind=2
  ·rw[bH h2,aE];rw[h2,show mo B.aG y.aN 2=IntKind.wrap .i64 (y.aN - 1)from rfl,jB (by omega)]at Pa;obtain⟨k1,k2,k3⟩:=hp.kd (by omega);have h0:=ha _ (tN k1)
   have aV:(args.getD 0 0).toNat<out.length:=by omega
   have he:st.1.getD (args.getD 0 0).toNat default=out.getD (args.getD 0 0).toNat default:=by
    rw[hm];exact getD_congr (iq aV)
   rw[he];have hpo:=uU (d:=(default:aH)) aV
   generalize hpd:out.getD (args.getD 0 0).toNat default=p at hpo k2 k3 ⊢;have F1:p.args.getD q.num.toNat 0∈p.args:=tN (by omega)
   have hpa:=(iQ _ _ hpo).args _ F1
   have ht:=h0.2
   rw[ET hpo]at ht;have:=(BV ht).2 k2 _ F1
   rw[qE (by omega)]at this;exact h.push (up ⟨by omega,this⟩)
  ·rw[bT h2,aM];have h3:q.kind=3:=by
    have:=hz.k
    simp[aL]at air;omega
   have vF:Yp c ar kd (di (y.ops.take i)) i q:=⟨hz.k,hz.nm,by rw[h3]at Pa ⊢;exact Pa,hz.many,hz.args,hz.call⟩
   obtain⟨g1,g2⟩:=OR (sl:=st.2) (out:=st.1) hq vF fun a Xl=>by
    have:=h.sl _ (tN (l:=st.2) (i:=a.toNat) (by have:=hz.args a Xl;rw[h.len];omega))
    exact⟨this.1,fun _=>this.2⟩
   have g2:=g2 (Ar hp.pl hgx _ i (Nat.lt_succ_self _) (bh.1 hq).1)
   refine⟨by simp[h.len],h.ok.app g1,fun v hv=>?_,⟨m++[tl st.2 q],by simp[hm]⟩⟩;rcases List.mem_append.1 hv with hv|hv
   ·have:=h.sl v hv
    rw[EU (by omega)];exact⟨by simp;omega,this.2⟩
   ·rw[List.mem_singleton.1 hv,Int.toNat_natCast,NL];exact⟨⟨by omega,by simp;omega⟩,g2⟩
theorem LN{ar kd:Int}(rt:Rt c)(hp:ako c out args y)(iQ:zR c ar kd out)(ha: ∀a∈args,(0≤a∧a<out.length)∧Td out a.toNat=false): ∀(r:List aH) (i:Nat) (st:List aH×List Int),InZ c ar kd out st i→y.ops.drop i=r→InZ c ar kd out (OH args r st) (i+r.length)
 |[],i,st,h,_=>h
 |q::r,i,st,h,hd=>by
  have hq:y.ops[i]? =some q:=by rw[←dG];exact sr hd
  rw[HS,List.length_cons,show i+(r.length+1)=i+1+r.length by omega];exact LN rt hp iQ ha r (i+1) _ (RA rt hp iQ ha h hq) (by rw[←List.drop_drop,hd];rfl)
def ChZ(c:af)(x:ah)(ch:Ch):Prop:= ∀(out:List aH) (args:List Int) (i:Nat) (o:aH) (y:ah),x.ops[i]? =some o→args.length=o.args.length→ch out args o=some y→aL o=true∧ako c out args y
theorem LM{ch:Ch}(rt:Rt c)(hz:zR c b.aG x.aN x.ops)(hch:ChZ c x ch): ∀(r:List aH) (i:Nat) (st:List aH×List Int),x.ops.drop i=r→i≤x.ops.length→Inv c b x (fun _=>True) i st→Inv c b x (fun _=>True) x.ops.length (VT ch x.ops.length r i st)
 |[],i,st,hd,hi,h=>by
  have Ni:x.ops.length≤i:=by simpa using hd
  have:i=x.ops.length:=by omega
  subst this;exact h
 |o::r,i,st,hd,hi,h=>by
  have ho:x.ops[i]? =some o:=by rw[←dG];exact sr hd
  have aV:=(bh.1 ho).1
  have nN:x.ops.drop (i+1)=r:=by rw[←List.drop_drop,hd];rfl
  have hzo:=hz i o ho
  have ME:=h.add ho hzo fun _ _=>trivial
  unfold VT;refine LM rt hz hch r (i+1) _ nN aV ?_;unfold amD;cases hc:ch st.1 (la st.2 o.args) o with
  |none=>exact ME
  |some y=>
   dsimp only;by_cases tG:st.1.length+OQ y+(x.ops.length - i - 1)≤60
   ·rw[bH tG,aE];obtain⟨jI,hp⟩:=hch _ _ i o y ho (Fb _ _) hc;have SI: ∀a∈la st.2 o.args,(0≤a∧a<st.1.length)∧Td st.1 a.toNat=false:=fun a ha=>by
     obtain⟨z,vF,rfl⟩:=List.mem_map.1 ha;have hzi:=hzo.args z vF
     have hs:=h.sl z.toNat (by omega) trivial
     refine⟨hs.r,hs.t ?_⟩;have:=(hzo.call jI).2.2 z vF
     rwa [qE (by omega)]at this
    have Bu:=LN rt hp h.ok SI y.ops 0 (st.1,[]) ⟨rfl,h.ok,fun v hv=>by simp at hv,⟨[],by simp⟩⟩ rfl
    rw[Nat.zero_add]at Bu;obtain⟨m,hm⟩:=Bu.pre;obtain⟨B,hB,hy,_⟩:=hp.B;have anX:=HR (args:=la st.2 o.args) y.ops (st.1,[]) (ai2 rt hB hy hp.pl).k
    have ya:=(rt.dL.x rt.ck hB hy).res
    have hv:=Bu.sl _ (tN (i:=y.result.toNat) (by rw[Bu.len];omega))
    have hlen:(st.1++m).length=st.1.length+OQ y:=by rw[←hm];exact anX
    have:=h.ext (m:=m) (by rw[←hm];exact Bu.ok) (fun _=>⟨by rw[←hm];exact hv.1,fun _=>by rw[←hm];exact hv.2⟩) (by rw[hlen];omega)
    rw[hm];exact this
   ·rw[bT tG,aM];exact ME
theorem HQ(rt:Rt c){ch:Ch}(hch: ∀b∈c.ab,∀x∈b.ae,ChZ c x ch):yj ⟨c.ab.map (fH (LL ch))⟩∧bS ⟨c.ab.map (fH (LL ch))⟩=0:=
 uG rt fun b hb x hx=>Pn (LM rt (rt.z hb hx) (hch b hb x hx) x.ops 0 ([],[]) rfl (Nat.zero_le _) (aii ((rt.bl b hb).len x hx))) (rt.dL.x rt.ck hb hx) trivial rfl rfl rfl rfl
theorem X4{i:Nat}{o:aH}(rt:Rt c)(hb:b∈c.ab)(hx:x∈b.ae)(ho:x.ops[i]? =some o)(hc:aL o=true):IE c o.name∈c.ab∧(o.args.length:Int)=(IE c o.name).aG:=by
 obtain⟨h1,h2⟩:=(rt.op b hb x hx i o ho).call hc;obtain⟨h3,h4,h5⟩:=Yc h1;exact⟨h4,by rw[h2,h5]⟩
theorem abb(rt:Rt c)(hb:b∈c.ab)(hx:x∈b.ae):ChZ c x (Mu c):=fun out args i o y ho hl hc=>by
 unfold Mu at hc;cases AR:aL o&&JO (IE c o.name)with
 |false=>rw[AR]at hc;cases hc
 |true=>
  rw[AR,aE]at hc;cases hc;simp only[Bool.and_eq_true,JO,decide_eq_true_eq]at AR;obtain⟨h1,h2,h3,h4⟩:=AR;obtain⟨hB,Tz⟩:=X4 rt hb hx ho h1;have hm:=L2 (rt.bl _ hB).n.1
  have hk:=((rt.bl _ hB).bare _ hm h3).2
  exact⟨h1,⟨_,hB,hm,by rw[hl];exact Tz⟩,h4,fun h0=>by omega⟩
theorem aa7(rt:Rt c)(hb:b∈c.ab)(hx:x∈b.ae):ChZ c x (Mp c):=fun out args i o y ho hl hc=>by
 unfold Mp at hc;cases AR:aL o&&(!decide ((OO (IE c o.name)).head=⟨#[]⟩)&&decide ((out.getD (args.getD 0 0).toNat default).kind=3))with
 |false=>rw[AR]at hc;cases hc
 |true=>
  rw[AR,aE]at hc;simp only[Bool.and_eq_true,Bool.not_eq_true',decide_eq_false_iff_not,decide_eq_true_eq]at AR;obtain⟨h1,h2,h3⟩:=AR;obtain⟨hB,Tz⟩:=X4 rt hb hx ho h1;obtain⟨hf,hp⟩:=Option.filter_eq_some_iff.1 hc;have hm:=List.mem_of_find?_eq_some hf
  have oW:=List.find?_some hf
  simp only[aeb,Bool.and_eq_true,decide_eq_true_eq]at oW;have hbl:=rt.bl _ hB
  have ha:(IE c o.name).aG≠0:=fun e=>h2 (hbl.L9 e _ (L2 hbl.n.1))
  have Y5:=hbl.ar
  exact⟨h1,⟨_,hB,hm,by rw[hl];exact Tz⟩,hp,fun _=>⟨by omega,h3,oW.2⟩⟩
theorem Ii(rt:Rt c):yj ⟨c.ab.map (fH (LL (Mu c)))⟩∧bS ⟨c.ab.map (fH (LL (Mu c)))⟩=0:=HQ rt fun b hb x hx=>abb rt hb hx
theorem Ia(rt:Rt c):yj ⟨c.ab.map (fH (LL (Mp c)))⟩∧bS ⟨c.ab.map (fH (LL (Mp c)))⟩=0:=HQ rt fun b hb x hx=>aa7 rt hb hx
end
end Ab
namespace Ab
open Go
set_option maxRecDepth 10000
section
variable{n:Nat}(hn:100<n)
 include hn
end
end Ab
namespace Ab
open Go
set_option maxRecDepth 10000
def pL(c:af):af:=⟨c.ab.map (fH AK)⟩
def pI(c:af):af:=⟨c.ab.map (fH (LL (Mu c)))⟩
def pK(c:af):af:=⟨c.ab.map (fH (LL (Mp c)))⟩
def pS(c:af):af:=⟨c.ab.map (fH NU)⟩
def pD(c:af):af:=⟨c.ab.map (fH XQ)⟩
def arn(c:af):af:=pD (pS (pK (pI (pL c))))
structure Ri(c:af):Prop where
 ck:yj c
 z:bS c=0
theorem Ri.rt{c:af}(h:Ri c):Rt c:=Uq h.ck h.z
theorem Ri.L{c:af}(h:Ri c):Ri (pL c):=⟨(AJ h.rt).1,(AJ h.rt).2⟩
theorem Ri.I{c:af}(h:Ri c):Ri (pI c):=⟨(Ii h.rt).1,(Ii h.rt).2⟩
theorem Ri.K{c:af}(h:Ri c):Ri (pK c):=⟨(Ia h.rt).1,(Ia h.rt).2⟩
theorem Ri.S{c:af}(h:Ri c):Ri (pS c):=⟨(CL h.rt).1,(CL h.rt).2⟩
theorem Ri.D{c:af}(h:Ri c):Ri (pD c):=⟨(Gt h.rt).1,(Gt h.rt).2⟩
theorem Ri.Uu{c:af}(h:Ri c):Ri (arn c):=h.L.I.K.S.D
section
variable{N:Nat}(hN:1000<N)
 include hN
end
end Ab
namespace Ab
open Go
set_option maxHeartbeats 4000000
set_option maxRecDepth 100000
theorem PD:oS al .al 2000=some true:=by kernel_rfl
theorem BY{f:List Int}{b:ai}: ∀{i:Nat} {l:List ai},b∈oV f i l→b∈l
 |_,[],h=>by simp[oV]at h
 |i,d::r,h=>by
  unfold oV at h;cases e:decide (f.getD i 0=(i:Int))with
  |true=>
   rw[e,aE]at h;rcases List.mem_cons.1 h with h|h
   ·subst h;simp
   ·exact List.mem_cons_of_mem _ (BY h)
  |false=>rw[e,aM]at h;exact List.mem_cons_of_mem _ (BY h)
theorem tw{q:Nat→Bool}{b:ai}: ∀{i:Nat} {l:List ai},b∈jg q i l→b∈l
 |_,[],h=>by simp[jg]at h
 |i,d::r,h=>by
  unfold jg at h;cases e:q i with
  |true=>
   rw[e,aE]at h;rcases List.mem_cons.1 h with h|h
   ·subst h;simp
   ·exact List.mem_cons_of_mem _ (tw h)
  |false=>rw[e,aM]at h;exact List.mem_cons_of_mem _ (tw h)
theorem WR{c:af}(hc:yj c)(q:Nat→Bool):yj ⟨jg q 0 c.ab⟩:=
 ⟨Nat.le_trans (Ic q 0 c.ab) hc.bl,fun b hb=>hc.br b (tw hb),fun b hb=>hc.op b (tw hb),fun b hb=>hc.ar b (tw hb)⟩
theorem Wt{c:af}(hc:yj c)(f:List Int):yj (BX c f):=by
 have key: ∀b∈(BX c f).ab,∃d∈c.ab,b=fH (tu c f) d:=fun b hb=>by
  obtain⟨d,hd,rfl⟩:=List.mem_map.1 (BY hb);exact⟨d,hd,rfl⟩
 refine⟨Nat.le_trans (Ie f 0 _) (by simp;exact hc.bl),fun b hb=>?_,fun b hb x hx=>?_,fun b hb x hx o ho=>?_⟩
 ·obtain⟨d,hd,rfl⟩:=key b hb;simpa[fH]using hc.br d hd
 ·obtain⟨d,hd,rfl⟩:=key b hb;obtain⟨y,hy,rfl⟩:=List.mem_map.1 hx;simpa[tu]using hc.op d hd y hy
 ·obtain⟨d,hd,rfl⟩:=key b hb;obtain⟨y,hy,rfl⟩:=List.mem_map.1 hx;obtain⟨q,hq,rfl⟩:=List.mem_map.1 ho;have:=hc.ar d hd y hy q hq
  unfold qS;cases aL q<;>exact this
theorem Ej(b:Bool):al.pick false true b=b:=rfl
theorem Iy{l m:List Int}(hl:l.length≤100):mf al .al 2000 l m=some (decide (l=m)):=by
 unfold mf;rw[Df (by decide) hl];rfl
theorem blocks_val(c:af)(a:ByteArray):iH al .al 2000 c a=some true:=by
 unfold iH;have e: ∀c:af,(⟨c.ab⟩:af)=c:=fun _=>rfl
 simp only[e];rw[PD,akv (by decide) c];simp only[aw];cases hb:Yf c with
 |true=>rfl
 |false=>
  cases hz:al.bg 40 (lF a)with
  |true=>rfl
  |false=>
   have hs:=S8 hb
   have hc:=hs.ck
   have hn:100<2000:=by decide
   have hN:1000<2000:=by decide
   have hid:dP al .al 2000 c c=some true:=by rw[uu hN hc.szd];simp
   have W6:dP al .al 2000 ⟨[]⟩ ⟨[]⟩=some true:=by rw[uu hN Z7];simp
   simp only[fN,beq_self_eq_true,aE,aw,Ej,aM,akp hn hs,LB hn hc,cD,hid];by_cases h0:bS c=0
   ·have rt:=Uq hc h0
    obtain⟨f,hf,hp⟩:=Ps hn rt h0;have hrc:=Hc hN rt hf
    have hlen:(f.take c.ab.length).length≤100:=by have:=hc.bl;simp;omega
    have heq:mf al .al 2000 (f.take c.ab.length) (f.take c.ab.length)=some true:=by rw[Iy hlen];simp
    have hsm:dP al .al 2000 (BX c f) (BX c f)=some true:=by rw[uu hN (Wt hc f).szd];simp
    by_cases hfd:0≤find c a
    ·obtain⟨l,hl,ho⟩:=acZ hn hc h0 hfd;have hso:dP al .al 2000 ⟨jg (fun i=>decide (l.getD i 0=1)) 0 c.ab⟩ ⟨jg (fun i=>decide (l.getD i 0=1)) 0 c.ab⟩=some true:=by rw[uu hN (WR hc _).szd];simp
     simp only[h0,decide_true,aE,hrc,CR hn rt hf.inv hrc,N1 hn rt hfd hl,yO hn rt h0 hf.inv hp,M1 hn rt h0 hf.inv hp,ho,aw,cw,Bool.not_true,Ej,heq,hsm,hso,beq_self_eq_true,aM];rfl
    ·simp only[h0,decide_true,aE,hrc,CR hn rt hf.inv hrc,Jx hn hc hfd,yO hn rt h0 hf.inv hp,M1 hn rt h0 hf.inv hp,Tg hn hc h0 hfd,aw,cw,Bool.not_true,Ej,heq,hsm,W6,beq_self_eq_true,aM];rfl
   ·have heq:mf al .al 2000 [] []=some true:=by rw[Iy (by simp)];simp
    simp only[bT h0,aM,PN hn hc h0,Th hn hc h0,Yq hn hc h0,aw,decide_true,cw,Bool.not_true,Ej,heq,W6,beq_self_eq_true,aE];rfl
end Ab
namespace Ab
open Go Go.Proofs.Tryz
set_option maxHeartbeats 100000000
set_option maxRecDepth 100000
noncomputable def c6:Code:=f6.body.get (by kernel_rfl)
def alC:Nat→Tree
 |9=> .one 0 (.one 2 (.aj 1 (.aj 3 (.one 4 (.aj 5 .done .nil)) .nil) .nil))
 |_=> .done
def aoR:Nat→List Nat
 |0=>[0,4]
 |1=>rg 17 6
 |2=>[24]
 |3=>[25,26]
 |4=>[27,28]
 |5=>[29]
 |8=>[30]
 |9=>[32,33,34,35]
 |10=>rg 36 6
 |11=>rg 42 5
 |12=>rg 47 5
 |13=>[1]++rg 52 6
 |14=>rg 6 7++[14,16]++rg 58 30
 |16=>[13,89,90]
 |17=>[15,91,92]
 |18=>[2,5]++rg 93 6
 |_=>[]
def auV(r:Nat):FI:=⟨fun _=> .skip,0,[],fun _=> .done,[],r,fun _=>[],some (WO Q2)⟩
theorem abJ(r:Nat):mg PP gL 25 (auV r):= .inl ⟨_,rfl,aa8 auX RB⟩
noncomputable def c32:Code:=f32.body.get (by kernel_rfl)
def afw:Nat→Tree
 |_=> .done
def ajU:Nat→List Nat
 |0=>[4]
 |1=>[0,1,5,6,7]
 |_=>[]
noncomputable def c47:Code:=f47.body.get (by kernel_rfl)
def afm:Nat→Tree
 |6=>on (rg 0 9) .done
 |_=> .done
def ajK:Nat→List Nat
 |0=>[4]
 |1=>[6,7,8,9]
 |3=>[11]
 |5=>[15]
 |6=>[5]++rg 16 8
 |8=>[25]
 |_=>[]
noncomputable def c7:Code:=f7.body.get (by kernel_rfl)
def alB:Nat→Tree
 |_=> .done
def aoQ:Nat→List Nat
 |0=>[0,2]
 |1=>[1]++rg 3 9
 |_=>[]
noncomputable def c33:Code:=f33.body.get (by kernel_rfl)
def afv:Nat→Tree
 |_=> .done
def ajT:Nat→List Nat
 |0=>[4]
 |1=>[0,1,5,6,7,8]
 |_=>[]
noncomputable def c92:Code:=f92.body.get (by kernel_rfl)
def Jh:Nat→Tree
 |_=> .done
def Kq:Nat→List Nat
 |0=>[4]
 |1=>[6]
 |3=>[10]
 |4=>rg 11 5
 |5=>[5,17]
 |6=>[18]
 |_=>[]
noncomputable def c34:Code:=f34.body.get (by kernel_rfl)
def afu:Nat→Tree
 |_=> .done
def ajS:Nat→List Nat
 |0=>[0,2]
 |1=>[1]++rg 3 15
 |_=>[]
noncomputable def c35:Code:=f35.body.get (by kernel_rfl)
def yY:Nat→Tree
 |_=> .done
def zH:Nat→List Nat
 |0=>[4]
 |1=>[0,1,5,6,7,8]
 |_=>[]
noncomputable def c93:Code:=f93.body.get (by kernel_rfl)
def um:Nat→Tree
 |_=> .done
def vk:Nat→List Nat
 |0=>[4]
 |1=>[6]
 |3=>[10]
 |4=>rg 11 5
 |5=>[5,17]
 |6=>[18]
 |_=>[]
noncomputable def c36:Code:=f36.body.get (by kernel_rfl)
def aft:Nat→Tree
 |_=> .done
def ajR:Nat→List Nat
 |0=>[0,2]
 |1=>[1]++rg 3 15
 |_=>[]
noncomputable def c37:Code:=f37.body.get (by kernel_rfl)
def Ud:Nat→Tree
 |_=> .done
def XZ:Nat→List Nat
 |0=>[4]
 |1=>[0,1,5,6,7,8]
 |_=>[]
noncomputable def c94:Code:=f94.body.get (by kernel_rfl)
def T8:Nat→Tree
 |_=> .done
def XU:Nat→List Nat
 |0=>[4]
 |1=>[6]
 |3=>[10]
 |4=>rg 11 5
 |5=>[5,17]
 |6=>[18]
 |_=>[]
noncomputable def c38:Code:=f38.body.get (by kernel_rfl)
def afs:Nat→Tree
 |_=> .done
def ajQ:Nat→List Nat
 |0=>[0,2]
 |1=>[1]++rg 3 10
 |_=>[]
noncomputable def c13:Code:=f13.body.get (by kernel_rfl)
def afI:Nat→Tree
 |13=>on (rg 0 10) (.aj 10 (.aj 11 (.aj 12 (.aj 13 (.one 14 (.aj 15 .done .nil)) .nil) .nil) .nil) .nil)
 |_=> .done
def aj6:Nat→List Nat
 |0=>[0]
 |2=>[1,12]
 |4=>[17,18]
 |5=>rg 19 5
 |6=>[5,24]
 |8=>[29,30]
 |9=>rg 31 7
 |10=>[8,38]
 |12=>[43,44]
 |13=>[11]++rg 45 15
 |14=>[60]
 |15=>[9]++rg 61 6
 |16=>[67]
 |17=>[6]++rg 68 6
 |18=>[74]
 |19=>[3,75]
 |_=>[]
noncomputable def c61:Code:=f61.body.get (by kernel_rfl)
def afb:Nat→Tree
 |_=> .done
def ajz:Nat→List Nat
 |0=>[2]
 |1=>[0,3,4,5]
 |_=>[]
noncomputable def c39:Code:=f39.body.get (by kernel_rfl)
def Uc:Nat→Tree
 |_=> .done
def XY:Nat→List Nat
 |1=>rg 1 22
 |_=>[]
noncomputable def auU(r:Nat):FI:=⟨fun _=>c39,23,[.cell 0 24],Uc,[3021],r,XY,none⟩
theorem abI(r:Nat):mg PP gL 39 (auU r):= .inr ⟨rfl,_,func39,by kernel_rfl,ntmps39,by kernel_rfl,by kernel_rfl,enters func39 (c:=c39) (by kernel_rfl) (by kernel_rfl)⟩
noncomputable def c42:Code:=f42.body.get (by kernel_rfl)
def Ub:Nat→Tree
 |_=> .done
def XX:Nat→List Nat
 |1=>[0,3,4]
 |_=>[]
noncomputable def XC(r:Nat):FI:=⟨fun _=>c42,5,[.cell 2 24],Ub,[],r,XX,none⟩
theorem QU(r:Nat):mg PP gL 42 (XC r):= .inr ⟨rfl,_,func42,by kernel_rfl,ntmps42,by kernel_rfl,by kernel_rfl,enters func42 (c:=c42) (by kernel_rfl) (by kernel_rfl)⟩
noncomputable def c46:Code:=f46.body.get (by kernel_rfl)
def afn:Nat→Tree
 |3=> .one 0 (.one 2 (.aj 1 (.aj 3 (on (rg 4 6) (.aj 10 (.aj 11 (.one 12 (.one 13 .done)) .nil) .nil)) .nil) .nil))
 |_=> .done
def ajL:Nat→List Nat
 |0=>[0,1,4]
 |2=>[5,7]
 |3=>[2,3,6]++rg 8 13
 |_=>[]
noncomputable def c99:Code:=f99.body.get (by kernel_rfl)
def aeL:Nat→Tree
 |_=> .done
def ai9:Nat→List Nat
 |0=>[0]
 |2=>[1,5]
 |4=>[8,9,10,11]
 |5=>[16]
 |6=>[4]++rg 17 6
 |7=>[3,23]
 |_=>[]
noncomputable def ao8:Code:=f129.body.get (by kernel_rfl)
def ZK:Nat→Tree
 |_=> .done
def aci:Nat→List Nat
 |0=>[0,2]
 |1=>[1,3]
 |_=>[]
noncomputable def aoB(r:Nat):FI:=⟨fun _=>ao8,4,[.tmp 2],ZK,[],r,aci,none⟩
theorem XI(r:Nat):mg PP gL 129 (aoB r):= .inr ⟨rfl,_,func129,by kernel_rfl,ntmps129,by kernel_rfl,by kernel_rfl,enters func129 (c:=ao8) (by kernel_rfl) (by kernel_rfl)⟩
noncomputable def ao6:Code:=f154.body.get (by kernel_rfl)
def Zq:Nat→Tree
 |_=> .done
def abX:Nat→List Nat
 |0=>[1,9]
 |2=>[14,15]
 |3=>[4,16]
 |5=>[21,22]
 |6=>[6,23]
 |8=>[28,29]
 |9=>[8,30,31,32]
 |10=>[34]
 |11=>[35]
 |12=>[36]
 |_=>[]
noncomputable def aoz(r:Nat):FI:=⟨fun _=>ao6,37,[],Zq,[],r,abX,none⟩
theorem XG(r:Nat):mg PP gL 154 (aoz r):= .inr ⟨rfl,_,func154,by kernel_rfl,ntmps154,by kernel_rfl,by kernel_rfl,enters func154 (c:=ao6) (by kernel_rfl) (by kernel_rfl)⟩
noncomputable def c80:Code:=f80.body.get (by kernel_rfl)
def aeZ:Nat→Tree
 |_=> .done
def ajn:Nat→List Nat
 |0=>[6]
 |1=>[10,11,12,13]
 |3=>[0]
 |5=>[19,20,21]
 |6=>[7,22,23,24,25]
 |7=>[8,9,26,27,28,29]
 |9=>[31]
 |_=>[]
noncomputable def avL:Code:=f100.body.get (by kernel_rfl)
def Z4:Nat→Tree
 |_=> .done
def acE:Nat→List Nat
 |0=>[0,1,5]
 |1=>[2,3,4]++rg 6 20
 |_=>[]
noncomputable def apf:Code:=f101.body.get (by kernel_rfl)
def P6:Nat→Tree
 |_=> .done
def Q1:Nat→List Nat
 |0=>[6]
 |1=>[10,11,12,13]
 |3=>[0]
 |5=>[19,20,21]
 |6=>[7,22,23,24,25]
 |7=>[8,9,26,27,28,29]
 |9=>[31]
 |_=>[]
noncomputable def c97:Code:=f97.body.get (by kernel_rfl)
def aeM:Nat→Tree
 |_=> .done
def aja:Nat→List Nat
 |0=>[0,1,5]
 |1=>[2,3,4]++rg 6 27
 |_=>[]
noncomputable def c98:Code:=f98.body.get (by kernel_rfl)
def T7:Nat→Tree
 |_=> .done
def XT:Nat→List Nat
 |0=>[6]
 |1=>[10,11,12,13]
 |3=>[0]
 |5=>[19,20,21]
 |6=>[7,22,23,24,25]
 |7=>[8,9,26,27,28,29]
 |9=>[31]
 |_=>[]
noncomputable def c96:Code:=f96.body.get (by kernel_rfl)
def aeN:Nat→Tree
 |_=> .done
def ajb:Nat→List Nat
 |0=>[0,1,4]
 |1=>[2,3]++rg 5 26
 |_=>[]
noncomputable def c40:Code:=f40.body.get (by kernel_rfl)
def afr:Nat→Tree
 |_=> .done
def ajP:Nat→List Nat
 |1=>rg 1 15
 |_=>[]
noncomputable def c43:Code:=f43.body.get (by kernel_rfl)
def afq:Nat→Tree
 |_=> .done
def ajO:Nat→List Nat
 |1=>[0,1,2,7,8,9,10]
 |_=>[]
noncomputable def c45:Code:=f45.body.get (by kernel_rfl)
def afo:Nat→Tree
 |_=> .done
def ajM:Nat→List Nat
 |1=>[0,1,2,3]++rg 9 5
 |_=>[]
noncomputable def c95:Code:=f95.body.get (by kernel_rfl)
def aeO:Nat→Tree
 |_=> .done
def ajc:Nat→List Nat
 |1=>[0,1,2,3]++rg 9 5
 |_=>[]
noncomputable def c44:Code:=f44.body.get (by kernel_rfl)
def afp:Nat→Tree
 |_=> .done
def ajN:Nat→List Nat
 |0=>[4]
 |1=>[0,1,5,6,7,8]
 |_=>[]
noncomputable def c41:Code:=f41.body.get (by kernel_rfl)
def Jj:Nat→Tree
 |3=>on [0,1,2,3,5] (.aj 4 (.aj 6 (.one 7 (.one 8 (.aj 9 .done .nil))) .nil) (.aj 6 (on [4,7,8] (.aj 9 .done .nil)) .nil))
 |4=>on (rg 0 5) (.aj 5 (.aj 6 (.aj 7 .done .nil) .nil) .nil)
 |_=> .done
def Ks:Nat→List Nat
 |1=>[3]
 |2=>rg 4 10
 |3=>rg 14 8
 |4=>[1,2]++rg 22 7
 |_=>[]
noncomputable def c23:Code:=f23.body.get (by kernel_rfl)
def afD:Nat→Tree
 |_=> .done
def aj1:Nat→List Nat
 |0=>[0,3,4]
 |1=>[14,15]
 |2=>[16]
 |3=>[5,18,19]
 |4=>[1,20,21]
 |6=>rg 22 5
 |8=>[31,32]
 |9=>[10]++rg 33 5
 |10=>[38]
 |13=>[41]
 |16=>[46,47]
 |17=>[13,48,49,50]
 |18=>[51]
 |19=>[52,53]
 |20=>[11,55]
 |21=>[56,57]
 |22=>[58]
 |23=>[6,7,59,60]
 |_=>[]
noncomputable def c49:Code:=f49.body.get (by kernel_rfl)
def afl:Nat→Tree
 |13=>on [0,2,5] (.aj 1 (.one 3 (.aj 4 (.one 6 .done) .nil)) (.aj 3 (.aj 1 (.aj 4 (.one 6 .done) .nil) .nil) .nil))
 |_=> .done
def ajJ:Nat→List Nat
 |0=>[0,2]
 |1=>rg 14 9
 |3=>[24]
 |5=>[29,30]
 |6=>[4,31,32]
 |7=>[33]
 |8=>[5,35]
 |9=>[36]
 |10=>[37]
 |12=>[42,43,44]
 |13=>[6,7]++rg 45 6
 |15=>[52]
 |16=>[53]
 |18=>[58,59]
 |19=>[60]
 |21=>[65,66]
 |22=>[67,68]
 |24=>[72]
 |25=>[12]++rg 73 5
 |26=>[78]
 |27=>[13,80]
 |28=>[81]
 |29=>[11,82,83,84,85]
 |31=>[93]
 |32=>[94]
 |_=>[]
noncomputable def ape:Code:=f107.body.get (by kernel_rfl)
def Z2:Nat→Tree
 |_=> .done
def acC:Nat→List Nat
 |0=>[0,2]
 |1=>[1,3]
 |_=>[]
noncomputable def aoH(r:Nat):FI:=⟨fun _=>ape,4,[.tmp 2],Z2,[],r,acC,none⟩
theorem Gi(r:Nat):mg PP gL 107 (aoH r):= .inr ⟨rfl,_,func107,by kernel_rfl,ntmps107,by kernel_rfl,by kernel_rfl,enters func107 (c:=ape) (by kernel_rfl) (by kernel_rfl)⟩
noncomputable def avo:Code:=f143.body.get (by kernel_rfl)
def ZA:Nat→Tree
 |_=> .done
def ab7:Nat→List Nat
 |0=>[0,3]
 |1=>[1,2,4,5,6,7]
 |_=>[]
noncomputable def avn:Code:=f144.body.get (by kernel_rfl)
def Zz:Nat→Tree
 |_=> .done
def ab6:Nat→List Nat
 |0=>[0,3]
 |1=>[1,2,4,5,6,7]
 |_=>[]
noncomputable def avJ:Code:=f108.body.get (by kernel_rfl)
def Z1:Nat→Tree
 |3=>on (rg 0 18) .done
 |18=>on [0,3,5,6,7] (.aj 1 (.one 2 (.aj 4 (.aj 8 (on (rg 9 7) (.aj 16 (.aj 17 (.one 18 .done) .nil) .nil)) .nil) (.aj 8 (on ([4]++rg 9 7) (.aj 16 (.aj 17 (.one 18 .done) .nil) .nil)) .nil))) (.aj 4 (.aj 1 (.one 2 (.aj 8 (on (rg 9 7) (.aj 16 (.aj 17 (.one 18 .done) .nil) .nil)) .nil)) (.aj 8 (on ([1,2]++rg 9 7) (.aj 16 (.aj 17 (.one 18 .done) .nil) .nil)) .nil)) (.aj 8 (on ([1,2,4]++rg 9 7) (.aj 16 (.aj 17 (.one 18 .done) .nil) .nil)) .nil)))
 |_=> .done
def acB:Nat→List Nat
 |0=>[0,1,2,3,8]
 |1=>rg 15 5
 |2=>[20,21]
 |3=>rg 22 16
 |4=>[5]++rg 38 11
 |5=>rg 50 8
 |7=>rg 59 16
 |9=>[13]++rg 76 9
 |11=>[11]++rg 86 18
 |13=>rg 105 15
 |15=>[12,121,122]
 |17=>[6,7]++rg 123 5
 |18=>[4,9,10,14]++rg 128 18
 |_=>[]
noncomputable def avm:Code:=f145.body.get (by kernel_rfl)
def Zy:Nat→Tree
 |_=> .done
def ab5:Nat→List Nat
 |0=>[1,4]
 |1=>[0,3,5,6,7,8]
 |_=>[]
noncomputable def akf:Code:=f148.body.get (by kernel_rfl)
def Jl:Nat→Tree
 |_=> .done
def Ku:Nat→List Nat
 |0=>[4]
 |1=>[0,1,5,6,7,8]
 |_=>[]
noncomputable def ake:Code:=f159.body.get (by kernel_rfl)
def Jk:Nat→Tree
 |_=> .done
def Kt:Nat→List Nat
 |0=>[4]
 |1=>[6]
 |3=>[10]
 |4=>rg 11 5
 |5=>[5,17]
 |6=>[18]
 |_=>[]
noncomputable def ave:Code:=f157.body.get (by kernel_rfl)
def Zo:Nat→Tree
 |_=> .done
def abV:Nat→List Nat
 |0=>[3]
 |1=>[0,1,4,5,6,7]
 |_=>[]
noncomputable def avl:Code:=f146.body.get (by kernel_rfl)
def Zx:Nat→Tree
 |_=> .done
def ab4:Nat→List Nat
 |0=>[3]
 |1=>[0,1]++rg 4 7
 |_=>[]
noncomputable def avr:Code:=f140.body.get (by kernel_rfl)
def ZD:Nat→Tree
 |_=> .done
def aca:Nat→List Nat
 |0=>[2]
 |1=>[0]++rg 3 13
 |_=>[]
noncomputable def avf:Code:=f156.body.get (by kernel_rfl)
def Zp:Nat→Tree
 |4=>on [0,1,2,4,5] (.aj 3 (.aj 6 (.one 7 .done) .nil) .nil)
 |_=> .done
def abW:Nat→List Nat
 |0=>[4]
 |1=>rg 7 5
 |2=>[0,13]
 |3=>rg 14 7
 |4=>[0,1]++rg 22 7
 |5=>rg 29 5
 |6=>[6]
 |7=>[0,5,35,36,37]
 |8=>[0,1]++rg 38 5
 |_=>[]
noncomputable def ao5:Code:=f163.body.get (by kernel_rfl)
def Zj:Nat→Tree
 |_=> .done
def abQ:Nat→List Nat
 |0=>[4]
 |1=>[5,6]
 |2=>[8,9,10,11]
 |3=>[13,14]
 |4=>[0,15]
 |_=>[]
noncomputable def aoy(r:Nat):FI:=⟨fun _=>ao5,16,[.tmp 4],Zj,[],r,abQ,none⟩
theorem XF(r:Nat):mg PP gL 163 (aoy r):= .inr ⟨rfl,_,func163,by kernel_rfl,ntmps163,by kernel_rfl,by kernel_rfl,enters func163 (c:=ao5) (by kernel_rfl) (by kernel_rfl)⟩
noncomputable def ao4:Code:=f164.body.get (by kernel_rfl)
def Zi:Nat→Tree
 |_=> .done
def abP:Nat→List Nat
 |0=>[4]
 |1=>[5,6]
 |2=>rg 8 7
 |3=>rg 16 5
 |4=>[0,21]
 |_=>[]
noncomputable def aox(r:Nat):FI:=⟨fun _=>ao4,22,[.tmp 4],Zi,[],r,abP,none⟩
theorem XE(r:Nat):mg PP gL 164 (aox r):= .inr ⟨rfl,_,func164,by kernel_rfl,ntmps164,by kernel_rfl,by kernel_rfl,enters func164 (c:=ao4) (by kernel_rfl) (by kernel_rfl)⟩
noncomputable def ao3:Code:=f167.body.get (by kernel_rfl)
def Zh:Nat→Tree
 |_=> .done
def abO:Nat→List Nat
 |0=>[4]
 |1=>[0,1]++rg 5 5
 |_=>[]
noncomputable def aow(r:Nat):FI:=⟨fun _=>ao3,10,[.tmp 4],Zh,[],r,abO,none⟩
theorem XD(r:Nat):mg PP gL 167 (aow r):= .inr ⟨rfl,_,func167,by kernel_rfl,ntmps167,by kernel_rfl,by kernel_rfl,enters func167 (c:=ao3) (by kernel_rfl) (by kernel_rfl)⟩
noncomputable def ava:Code:=f162.body.get (by kernel_rfl)
def Zk:Nat→Tree
 |_=> .done
def abR:Nat→List Nat
 |0=>[3]
 |2=>[6,7,8]
 |3=>[10,11]
 |4=>[12,13,14]
 |5=>[15]
 |6=>[17]
 |7=>[5,18,19]
 |8=>[20]
 |_=>[]
noncomputable def avc:Code:=f160.body.get (by kernel_rfl)
def Zm:Nat→Tree
 |_=> .done
def abT:Nat→List Nat
 |0=>[4]
 |1=>[5,6,7,8]
 |2=>[14,15]
 |3=>[0,16]
 |_=>[]
noncomputable def avb:Code:=f161.body.get (by kernel_rfl)
def Zl:Nat→Tree
 |_=> .done
def abS:Nat→List Nat
 |0=>[4]
 |1=>[5,6,7,8]
 |2=>rg 17 5
 |3=>[0,22]
 |_=>[]
noncomputable def avk:Code:=f147.body.get (by kernel_rfl)
def Zw:Nat→Tree
 |_=> .done
def ab3:Nat→List Nat
 |0=>[2]
 |2=>[0]
 |4=>[11,12]
 |5=>[5,13,14,15,16,26]
 |6=>[6,27,28,29,30]
 |7=>[31]
 |8=>[3,32]
 |_=>[]
noncomputable def avd:Code:=f158.body.get (by kernel_rfl)
def Zn:Nat→Tree
 |_=> .done
def abU:Nat→List Nat
 |0=>[3]
 |1=>[0,1,4,5,6,7]
 |_=>[]
noncomputable def avj:Code:=f149.body.get (by kernel_rfl)
def Zv:Nat→Tree
 |_=> .done
def ab2:Nat→List Nat
 |0=>[3]
 |1=>[0,1,4,5,6,7]
 |_=>[]
noncomputable def avK:Code:=f106.body.get (by kernel_rfl)
def Z3:Nat→Tree
 |_=> .done
def acD:Nat→List Nat
 |0=>[0,2]
 |2=>[5]
 |3=>rg 7 16
 |5=>rg 24 14
 |7=>rg 39 11
 |9=>[51,52,53,54]
 |11=>[3]++rg 56 10
 |13=>[1,4,67,68,69,70]
 |_=>[]
noncomputable def acP:Code:=f137.body.get (by kernel_rfl)
def Ef:Nat→Tree
 |_=> .done
def Ev:Nat→List Nat
 |0=>[1,4]
 |1=>[0,3,5,6,7,8]
 |_=>[]
noncomputable def acO:Code:=f155.body.get (by kernel_rfl)
def Ee:Nat→Tree
 |_=> .done
def Eu:Nat→List Nat
 |0=>[0,3]
 |1=>[1,2,4,5,6,7]
 |_=>[]
noncomputable def avt:Code:=f138.body.get (by kernel_rfl)
def ZF:Nat→Tree
 |_=> .done
def acd:Nat→List Nat
 |0=>[0,2]
 |1=>[1]++rg 3 10
 |_=>[]
noncomputable def avs:Code:=f139.body.get (by kernel_rfl)
def ZE:Nat→Tree
 |_=> .done
def acb:Nat→List Nat
 |0=>[0,2]
 |1=>[1]++rg 3 8
 |_=>[]
noncomputable def avq:Code:=f141.body.get (by kernel_rfl)
def ZC:Nat→Tree
 |_=> .done
def ab9:Nat→List Nat
 |0=>[0,3]
 |1=>[1,2]++rg 4 8
 |_=>[]
noncomputable def avx:Code:=f133.body.get (by kernel_rfl)
def ZJ:Nat→Tree
 |_=> .done
def ach:Nat→List Nat
 |0=>[0,2]
 |1=>[1,3,4,5]
 |_=>[]
noncomputable def avp:Code:=f142.body.get (by kernel_rfl)
def ZB:Nat→Tree
 |_=> .done
def ab8:Nat→List Nat
 |0=>[0,4]
 |1=>[1,2,3]++rg 5 14
 |_=>[]
noncomputable def avw:Code:=f134.body.get (by kernel_rfl)
def ZI:Nat→Tree
 |_=> .done
def acg:Nat→List Nat
 |0=>[0,3]
 |1=>[6,7,8,9]
 |2=>[1,2,4]++rg 10 7
 |3=>[5,17,18]
 |_=>[]
noncomputable def avv:Code:=f135.body.get (by kernel_rfl)
def ZH:Nat→Tree
 |_=> .done
def acf:Nat→List Nat
 |0=>[0,3]
 |1=>[1,2]++rg 4 12
 |_=>[]
noncomputable def avu:Code:=f136.body.get (by kernel_rfl)
def ZG:Nat→Tree
 |_=> .done
def ace:Nat→List Nat
 |0=>[0,3]
 |1=>[1,2]++rg 4 12
 |_=>[]
noncomputable def c77:Code:=f77.body.get (by kernel_rfl)
def ae0:Nat→Tree
 |_=> .done
def ajo:Nat→List Nat
 |0=>[0]
 |1=>[1,3,4]
 |_=>[]
noncomputable def c50:Code:=f50.body.get (by kernel_rfl)
def Ua:Nat→Tree
 |11=>on (rg 0 5++[6,7,8]) (.aj 5 (.aj 9 (on [10,11,12] (.aj 13 .done .nil)) .nil) (.aj 9 (on [5,10,11,12] (.aj 13 .done .nil)) .nil))
 |15=>on [0,1,2,3,5,6,7,8] (.aj 4 (.aj 9 (.aj 10 (.aj 11 (.one 12 (.one 13 (.aj 14 .done .nil))) .nil) .nil) .nil) (.aj 9 (.one 4 (.aj 10 (.aj 11 (.one 12 (.one 13 (.aj 14 .done .nil))) .nil) .nil)) .nil))
 |17=>on (rg 0 12) (.aj 12 .done .nil)
 |19=>on (rg 0 9) (.aj 9 (.aj 10 (.one 11 (.one 12 (.aj 13 .done .nil))) .nil) .nil)
 |_=> .done
def XW:Nat→List Nat
 |0=>[0,1,2]
 |2=>[16]
 |4=>[21,22]
 |5=>[9]++rg 23 10
 |6=>[33]
 |7=>[3,34]
 |10=>[38,39,40]
 |11=>rg 41 12
 |12=>[53]
 |14=>[58,59,60]
 |15=>[13,14]++rg 61 14
 |16=>[75]
 |17=>[11]++rg 76 12
 |18=>[10]++rg 88 5
 |19=>[12,15]++rg 93 13
 |20=>[7,106]
 |_=>[]
noncomputable def auT(r:Nat):FI:=⟨fun _=>c50,107,[.cell 6 24],Ua,[1031,2097],r,XW,none⟩
theorem xS(r:Nat):mg PP gL 50 (auT r):= .inr ⟨rfl,_,func50,by kernel_rfl,ntmps50,by kernel_rfl,by kernel_rfl,enters func50 (c:=c50) (by kernel_rfl) (by kernel_rfl)⟩
noncomputable def c54:Code:=f54.body.get (by kernel_rfl)
def afh:Nat→Tree
 |5=>on (rg 0 13) (.aj 13 (.aj 14 (.aj 15 (on [16,17,18] (.aj 19 .done .nil)) .nil) .nil) .nil)
 |_=> .done
def ajF:Nat→List Nat
 |0=>[1,6]
 |1=>[8,9,10]
 |2=>[11,12,13]
 |3=>[2,14,15]
 |5=>[4,7]++rg 17 19
 |6=>[0]++rg 36 7
 |_=>[]
noncomputable def auQ(r:Nat):FI:=⟨fun _=>c54,43,[.tmp 6],afh,[],r,ajF,none⟩
theorem uW(r:Nat):mg PP gL 54 (auQ r):= .inr ⟨rfl,_,func54,by kernel_rfl,ntmps54,by kernel_rfl,by kernel_rfl,enters func54 (c:=c54) (by kernel_rfl) (by kernel_rfl)⟩
noncomputable def c87:Code:=f87.body.get (by kernel_rfl)
def aeT:Nat→Tree
 |_=> .done
def ajh:Nat→List Nat
 |0=>[0,1,2]
 |1=>[3,4]
 |_=>[]
noncomputable def auJ(r:Nat):FI:=⟨fun _=>c87,5,[.tmp 2],aeT,[],r,ajh,none⟩
theorem QT(r:Nat):mg PP gL 87 (auJ r):= .inr ⟨rfl,_,func87,by kernel_rfl,ntmps87,by kernel_rfl,by kernel_rfl,enters func87 (c:=c87) (by kernel_rfl) (by kernel_rfl)⟩
noncomputable def c91:Code:=f91.body.get (by kernel_rfl)
def aeP:Nat→Tree
 |_=> .done
def ajd:Nat→List Nat
 |0=>[0,2]
 |1=>[1,3]
 |_=>[]
noncomputable def auH(r:Nat):FI:=⟨fun _=>c91,4,[.tmp 2],aeP,[],r,ajd,none⟩
theorem sm(r:Nat):mg PP gL 91 (auH r):= .inr ⟨rfl,_,func91,by kernel_rfl,ntmps91,by kernel_rfl,by kernel_rfl,enters func91 (c:=c91) (by kernel_rfl) (by kernel_rfl)⟩
noncomputable def apa:Code:=f122.body.get (by kernel_rfl)
def ZQ:Nat→Tree
 |1=>on (rg 0 5) (.aj 5 (.aj 6 (.one 7 .done) .nil) .nil)
 |_=> .done
def acp:Nat→List Nat
 |0=>[2,6]
 |1=>[0,5]++rg 7 7
 |_=>[]
noncomputable def aoD(r:Nat):FI:=⟨fun _=>apa,14,[.tmp 6],ZQ,[],r,acp,none⟩
theorem XJ(r:Nat):mg PP gL 122 (aoD r):= .inr ⟨rfl,_,func122,by kernel_rfl,ntmps122,by kernel_rfl,by kernel_rfl,enters func122 (c:=apa) (by kernel_rfl) (by kernel_rfl)⟩
noncomputable def ao9:Code:=f128.body.get (by kernel_rfl)
def ZL:Nat→Tree
 |_=> .done
def acj:Nat→List Nat
 |0=>[1,7]
 |2=>[12,13,14]
 |3=>[4,15]
 |5=>[20,21,22]
 |6=>[5,6]++rg 23 6
 |7=>[30]
 |8=>[31]
 |_=>[]
noncomputable def aoC(r:Nat):FI:=⟨fun _=>ao9,32,[],ZL,[],r,acj,none⟩
theorem o7(r:Nat):mg PP gL 128 (aoC r):= .inr ⟨rfl,_,func128,by kernel_rfl,ntmps128,by kernel_rfl,by kernel_rfl,enters func128 (c:=ao9) (by kernel_rfl) (by kernel_rfl)⟩
noncomputable def c55:Code:=f55.body.get (by kernel_rfl)
def Ji:Nat→Tree
 |_=> .done
def Kr:Nat→List Nat
 |0=>[4]
 |2=>[1]
 |4=>[12,13]
 |5=>[7]++rg 14 10
 |6=>[24]
 |7=>[5,25]
 |_=>[]
noncomputable def c78:Code:=f78.body.get (by kernel_rfl)
def ES:Nat→Tree
 |_=> .done
def Gu:Nat→List Nat
 |0=>[0,1]
 |1=>[2,3]++rg 6 8
 |2=>[5,14]
 |_=>[]
noncomputable def c12:Code:=f12.body.get (by kernel_rfl)
def afJ:Nat→Tree
 |_=> .done
def aj7:Nat→List Nat
 |0=>[0,3]
 |1=>[6,7]
 |2=>[8]
 |3=>[4,10,11]
 |5=>[1,5,12,13,14,15]
 |_=>[]
noncomputable def c58:Code:=f58.body.get (by kernel_rfl)
def afe:Nat→Tree
 |1=>on (rg 0 11) (.aj 11 (.aj 12 .done .nil) .nil)
 |_=> .done
def ajC:Nat→List Nat
 |0=>[0,4]
 |1=>[1,2,3]++rg 5 12
 |2=>[17,18]
 |_=>[]
noncomputable def auN(r:Nat):FI:=⟨fun _=>c58,19,[.tmp 4],afe,[],r,ajC,none⟩
theorem abD(r:Nat):mg PP gL 58 (auN r):= .inr ⟨rfl,_,func58,by kernel_rfl,ntmps58,by kernel_rfl,by kernel_rfl,enters func58 (c:=c58) (by kernel_rfl) (by kernel_rfl)⟩
noncomputable def c60:Code:=f60.body.get (by kernel_rfl)
def afc:Nat→Tree
 |3=>on (rg 0 5) (.aj 5 (.aj 6 (.one 7 .done) .nil) .nil)
 |_=> .done
def ajA:Nat→List Nat
 |0=>[2,7]
 |1=>[1,3]++rg 8 9
 |2=>[18]
 |3=>[0,6]++rg 19 7
 |_=>[]
noncomputable def auM(r:Nat):FI:=⟨fun _=>c60,26,[.tmp 7],afc,[],r,ajA,none⟩
theorem abC(r:Nat):mg PP gL 60 (auM r):= .inr ⟨rfl,_,func60,by kernel_rfl,ntmps60,by kernel_rfl,by kernel_rfl,enters func60 (c:=c60) (by kernel_rfl) (by kernel_rfl)⟩
noncomputable def akg:Code:=f111.body.get (by kernel_rfl)
def P5:Nat→Tree
 |_=> .done
def Q0:Nat→List Nat
 |0=>[7,8,9]
 |1=>[1,11,12,13]
 |2=>rg 14 6
 |3=>[0,2]++rg 21 5
 |5=>[30,31]
 |6=>[6,32,33,34]
 |7=>[35]
 |_=>[]
noncomputable def MM(r:Nat):FI:=⟨fun _=>akg,36,[],P5,[],r,Q0,none⟩
theorem XK(r:Nat):mg PP gL 111 (MM r):= .inr ⟨rfl,_,func111,by kernel_rfl,ntmps111,by kernel_rfl,by kernel_rfl,enters func111 (c:=akg) (by kernel_rfl) (by kernel_rfl)⟩
noncomputable def c59:Code:=f59.body.get (by kernel_rfl)
def afd:Nat→Tree
 |_=> .done
def ajB:Nat→List Nat
 |0=>[0,2]
 |1=>[9,10,11,12]
 |3=>[13]
 |4=>[1,14]
 |6=>[19,20]
 |7=>[21]
 |8=>[6,23]
 |10=>[28,29]
 |11=>[8,30,31,32]
 |12=>[33]
 |13=>[34]
 |14=>[3,35]
 |_=>[]
noncomputable def c89:Code:=f89.body.get (by kernel_rfl)
def aeR:Nat→Tree
 |_=> .done
def ajf:Nat→List Nat
 |0=>[0,2]
 |1=>[1]++rg 3 8
 |_=>[]
noncomputable def c19:Code:=f19.body.get (by kernel_rfl)
def afF:Nat→Tree
 |_=> .done
def aj3:Nat→List Nat
 |0=>[0,3]
 |1=>[5,6]
 |2=>[7]
 |3=>[4,9,10]
 |4=>[1,11,12,13]
 |_=>[]
noncomputable def c70:Code:=f70.body.get (by kernel_rfl)
def T9:Nat→Tree
 |_=> .done
def XV:Nat→List Nat
 |0=>[0,1]
 |2=>[2,3]++rg 5 5
 |_=>[]
noncomputable def c71:Code:=f71.body.get (by kernel_rfl)
def ae4:Nat→Tree
 |2=>on (rg 0 5) (.aj 5 (.aj 6 (.one 7 .done) .nil) .nil)
 |_=> .done
def ajs:Nat→List Nat
 |0=>[1,6]
 |1=>[2,4,8,9,10,11]
 |2=>[7]++rg 12 6
 |_=>[]
noncomputable def auL(r:Nat):FI:=⟨fun _=>c71,18,[.cell 5 61,.tmp 6],ae4,[],r,ajs,none⟩
theorem abB(r:Nat):mg PP gL 71 (auL r):= .inr ⟨rfl,_,func71,by kernel_rfl,ntmps71,by kernel_rfl,by kernel_rfl,enters func71 (c:=c71) (by kernel_rfl) (by kernel_rfl)⟩
noncomputable def apc:Code:=f115.body.get (by kernel_rfl)
def ZW:Nat→Tree
 |_=> .done
def acw:Nat→List Nat
 |0=>[0,4]
 |1=>[1,3,5]
 |2=>[2,6,7,8]
 |_=>[]
noncomputable def aoF(r:Nat):FI:=⟨fun _=>apc,9,[.tmp 4],ZW,[],r,acw,none⟩
theorem ML(r:Nat):mg PP gL 115 (aoF r):= .inr ⟨rfl,_,func115,by kernel_rfl,ntmps115,by kernel_rfl,by kernel_rfl,enters func115 (c:=apc) (by kernel_rfl) (by kernel_rfl)⟩
noncomputable def apb:Code:=f116.body.get (by kernel_rfl)
def ZV:Nat→Tree
 |4=>on (rg 0 6) (.aj 6 (on [7,8,9] (.aj 10 (.one 11 .done) .nil)) .nil)
 |5=>on (rg 0 17) .done
 |21=>on (rg 0 5) (.aj 5 (.aj 6 (.one 7 .done) .nil) .nil)
 |25=>on (rg 0 16) .done
 |28=>on (rg 0 9) .done
 |_=> .done
def acv:Nat→List Nat
 |0=>[2,8]
 |1=>[20,21,22,23]
 |2=>[24]
 |3=>[25]
 |4=>rg 27 10
 |5=>[1,3,4]++rg 37 16
 |7=>[53]
 |9=>[58,59]
 |10=>[15,60,61]
 |11=>[63,64]
 |12=>[65]
 |13=>[11,12,13]++rg 66 14
 |14=>[0,7,9,81,82,83,84]
 |15=>[85,86]
 |16=>[87]
 |18=>[92,93]
 |19=>[19]
 |20=>[94]
 |21=>[18]++rg 96 7
 |22=>[104]
 |23=>[18]++rg 105 5
 |24=>[95,111]
 |25=>[18]++rg 112 15
 |26=>[19]++rg 127 10
 |27=>[137]
 |28=>[10,16]++rg 138 8
 |_=>[]
noncomputable def aoE(r:Nat):FI:=⟨fun _=>apb,146,[.tmp 8],ZV,[],r,acv,none⟩
theorem MK(r:Nat):mg PP gL 116 (aoE r):= .inr ⟨rfl,_,func116,by kernel_rfl,ntmps116,by kernel_rfl,by kernel_rfl,enters func116 (c:=apb) (by kernel_rfl) (by kernel_rfl)⟩
noncomputable def avF:Code:=f117.body.get (by kernel_rfl)
def ZU:Nat→Tree
 |_=> .done
def acu:Nat→List Nat
 |0=>[2]
 |2=>[0]
 |4=>[10,11]
 |5=>[5,12,13,14]
 |6=>[15]
 |7=>[3,16]
 |_=>[]
noncomputable def c72:Code:=f72.body.get (by kernel_rfl)
def ae3:Nat→Tree
 |_=> .done
def ajr:Nat→List Nat
 |0=>[0,1]
 |1=>[3,6,7,8,9]
 |2=>[2,5]++rg 10 5
 |_=>[]
noncomputable def avE:Code:=f118.body.get (by kernel_rfl)
def ZT:Nat→Tree
 |_=> .done
def acs:Nat→List Nat
 |0=>[0,3]
 |1=>[1,2,4,5,6,7]
 |_=>[]
noncomputable def c67:Code:=f67.body.get (by kernel_rfl)
def ae6:Nat→Tree
 |_=> .done
def aju:Nat→List Nat
 |0=>[0,2]
 |1=>[1]++rg 3 19
 |_=>[]
noncomputable def c74:Code:=f74.body.get (by kernel_rfl)
def ae1:Nat→Tree
 |_=> .done
def ajp:Nat→List Nat
 |0=>[0,2]
 |1=>[1,3,4,5]
 |_=>[]
noncomputable def avD:Code:=f119.body.get (by kernel_rfl)
def ZS:Nat→Tree
 |_=> .done
def acr:Nat→List Nat
 |0=>[1,4]
 |1=>[0,3,5,6,7,8]
 |_=>[]
noncomputable def avh:Code:=f152.body.get (by kernel_rfl)
def Zs:Nat→Tree
 |_=> .done
def abZ:Nat→List Nat
 |0=>[0,3]
 |1=>[1,2,4,5,6,7]
 |_=>[]
noncomputable def avC:Code:=f120.body.get (by kernel_rfl)
def ZR:Nat→Tree
 |_=> .done
def acq:Nat→List Nat
 |0=>[0,2]
 |1=>[1,3,4,5]
 |_=>[]
noncomputable def c20:Code:=f20.body.get (by kernel_rfl)
def afE:Nat→Tree
 |_=> .done
def aj2:Nat→List Nat
 |0=>[0,3]
 |1=>[5,6]
 |2=>[7]
 |3=>[4,9,10]
 |4=>[1,11,12,13]
 |_=>[]
noncomputable def c73:Code:=f73.body.get (by kernel_rfl)
def ae2:Nat→Tree
 |4=>on (rg 0 17) (.aj 17 (.aj 18 .done .nil) .nil)
 |9=> .one 0 (.one 1 (.aj 2 (.aj 3 (.one 4 .done) .nil) .nil))
 |_=> .done
def ajq:Nat→List Nat
 |0=>[1,6]
 |1=>[2,11,12,13,14]
 |2=>rg 15 5
 |3=>[21]
 |4=>[0,4]++rg 22 17
 |5=>[7,39]
 |7=>[44,45]
 |8=>[46,47,48,49,55,56]
 |9=>[10,64,65,66]
 |10=>[67]
 |11=>[68]
 |_=>[]
noncomputable def auK(r:Nat):FI:=⟨fun _=>c73,69,[.cell 5 61,.tmp 6],ae2,[],r,ajq,none⟩
theorem abA(r:Nat):mg PP gL 73 (auK r):= .inr ⟨rfl,_,func73,by kernel_rfl,ntmps73,by kernel_rfl,by kernel_rfl,enters func73 (c:=c73) (by kernel_rfl) (by kernel_rfl)⟩
noncomputable def c11:Code:=f11.body.get (by kernel_rfl)
def afK:Nat→Tree
 |_=> .done
def aj8:Nat→List Nat
 |0=>[0,3]
 |1=>[6,7]
 |2=>[8]
 |3=>[4,10,11]
 |5=>[1,5,12,13,14,15]
 |_=>[]
noncomputable def c56:Code:=f56.body.get (by kernel_rfl)
def afg:Nat→Tree
 |_=> .done
def ajE:Nat→List Nat
 |0=>[0,2,3]
 |1=>[1,4]
 |2=>[5,6]
 |_=>[]
noncomputable def auP(r:Nat):FI:=⟨fun _=>c56,7,[.tmp 3],afg,[],r,ajE,none⟩
theorem abF(r:Nat):mg PP gL 56 (auP r):= .inr ⟨rfl,_,func56,by kernel_rfl,ntmps56,by kernel_rfl,by kernel_rfl,enters func56 (c:=c56) (by kernel_rfl) (by kernel_rfl)⟩
noncomputable def c57:Code:=f57.body.get (by kernel_rfl)
def aff:Nat→Tree
 |1=>on (rg 0 6++[7,8,9]) (.aj 6 (.aj 10 (.aj 11 (.aj 12 (.one 13 .done) .nil) .nil) (.aj 11 (.aj 10 (.aj 12 (.one 13 .done) .nil) .nil) .nil)) (.aj 10 (.aj 6 (.aj 11 (.aj 12 (.one 13 .done) .nil) .nil) (.aj 11 (.aj 6 (.aj 12 (.one 13 .done) .nil) .nil) .nil)) (.aj 11 (.aj 6 (.aj 10 (.aj 12 (.one 13 .done) .nil) .nil) (.aj 10 (.aj 6 (.aj 12 (.one 13 .done) .nil) .nil) .nil)) .nil)))
 |_=> .done
def ajD:Nat→List Nat
 |0=>[2,7]
 |1=>rg 14 11
 |2=>[25,26]
 |4=>[31,32]
 |5=>rg 33 8
 |6=>[12]++rg 41 10
 |7=>[11,56]
 |8=>[57]
 |9=>[0,6,9,58,59,60,61]
 |10=>[3,8]++rg 62 8
 |11=>[13,70]
 |_=>[]
noncomputable def auO(r:Nat):FI:=⟨fun _=>c57,71,[.tmp 7],aff,[],r,ajD,none⟩
theorem abE(r:Nat):mg PP gL 57 (auO r):= .inr ⟨rfl,_,func57,by kernel_rfl,ntmps57,by kernel_rfl,by kernel_rfl,enters func57 (c:=c57) (by kernel_rfl) (by kernel_rfl)⟩
noncomputable def c10:Code:=f10.body.get (by kernel_rfl)
def afL:Nat→Tree
 |_=> .done
def aj9:Nat→List Nat
 |0=>[0,3]
 |1=>[6,7]
 |2=>[8]
 |3=>[4,10,11]
 |5=>[1,5,12,13,14,15]
 |_=>[]
noncomputable def c51:Code:=f51.body.get (by kernel_rfl)
def afk:Nat→Tree
 |_=> .done
def ajI:Nat→List Nat
 |0=>[0,4]
 |1=>[1,2,3]++rg 5 9
 |2=>[14,15]
 |_=>[]
noncomputable def auS(r:Nat):FI:=⟨fun _=>c51,16,[.tmp 4],afk,[],r,ajI,none⟩
theorem abH(r:Nat):mg PP gL 51 (auS r):= .inr ⟨rfl,_,func51,by kernel_rfl,ntmps51,by kernel_rfl,by kernel_rfl,enters func51 (c:=c51) (by kernel_rfl) (by kernel_rfl)⟩
noncomputable def c53:Code:=f53.body.get (by kernel_rfl)
def afi:Nat→Tree
 |3=>on (rg 0 5) (.aj 5 (.aj 6 (.one 7 .done) .nil) .nil)
 |_=> .done
def ajG:Nat→List Nat
 |0=>[2,7]
 |1=>[1,3,8,9,10,11]
 |3=>[0,6]++rg 13 7
 |_=>[]
noncomputable def auR(r:Nat):FI:=⟨fun _=>c53,20,[.tmp 7],afi,[],r,ajG,none⟩
theorem abG(r:Nat):mg PP gL 53 (auR r):= .inr ⟨rfl,_,func53,by kernel_rfl,ntmps53,by kernel_rfl,by kernel_rfl,enters func53 (c:=c53) (by kernel_rfl) (by kernel_rfl)⟩
noncomputable def c52:Code:=f52.body.get (by kernel_rfl)
def afj:Nat→Tree
 |9=>on (rg 0 17) (.aj 17 .done .nil)
 |_=> .done
def ajH:Nat→List Nat
 |0=>[0,6,7]
 |1=>[1,2,3]++rg 15 7
 |2=>[22]
 |3=>[9,24]
 |4=>[25,26,27,28]
 |5=>[29,30,31,32]
 |6=>[8,33,34]
 |9=>rg 38 7++[48,49,53,54]
 |10=>[11,55,56,57]
 |11=>[12,59]
 |13=>[64,65]
 |14=>[14,66,67,68]
 |15=>[69]
 |16=>[10,70]
 |_=>[]
noncomputable def apd:Code:=f110.body.get (by kernel_rfl)
def ZZ:Nat→Tree
 |_=> .done
def acz:Nat→List Nat
 |0=>[0,2]
 |1=>[1,3]
 |_=>[]
noncomputable def aoG(r:Nat):FI:=⟨fun _=>apd,4,[.tmp 2],ZZ,[],r,acz,none⟩
theorem XL(r:Nat):mg PP gL 110 (aoG r):= .inr ⟨rfl,_,func110,by kernel_rfl,ntmps110,by kernel_rfl,by kernel_rfl,enters func110 (c:=apd) (by kernel_rfl) (by kernel_rfl)⟩
noncomputable def ao7:Code:=f150.body.get (by kernel_rfl)
def Zu:Nat→Tree
 |_=> .done
def ab1:Nat→List Nat
 |0=>[4,5,6]
 |1=>[7]
 |2=>[9,10]
 |3=>rg 11 7
 |_=>[]
noncomputable def aoA(r:Nat):FI:=⟨fun _=>ao7,19,[],Zu,[],r,ab1,none⟩
theorem XH(r:Nat):mg PP gL 150 (aoA r):= .inr ⟨rfl,_,func150,by kernel_rfl,ntmps150,by kernel_rfl,by kernel_rfl,enters func150 (c:=ao7) (by kernel_rfl) (by kernel_rfl)⟩
noncomputable def avI:Code:=f109.body.get (by kernel_rfl)
def Z0:Nat→Tree
 |_=> .done
def acA:Nat→List Nat
 |0=>[0,7]
 |1=>[9,10]
 |2=>[11]
 |3=>[8,13,14]
 |4=>rg 15 23
 |5=>[39]
 |6=>[1,2,3]++rg 40 9
 |_=>[]
noncomputable def c29:Code:=f29.body.get (by kernel_rfl)
def afz:Nat→Tree
 |_=> .done
def ajX:Nat→List Nat
 |0=>[0,2,3]
 |1=>[6,7]
 |2=>[8]
 |3=>[4,10]
 |4=>[11,12]
 |5=>[1,5]++rg 13 5
 |_=>[]
noncomputable def c85:Code:=f85.body.get (by kernel_rfl)
def aeV:Nat→Tree
 |6=>on [1,2,3,4] (.aj 0 (.aj 5 (.aj 6 (.aj 7 (.one 8 (.aj 9 .done .nil)) .nil) .nil) (.aj 6 (.aj 5 (.aj 7 (.one 8 (.aj 9 .done .nil)) .nil) .nil) .nil)) (.aj 5 (.one 0 (.aj 6 (.aj 7 (.one 8 (.aj 9 .done .nil)) .nil) .nil)) (.aj 6 (.aj 0 (.aj 5 (.aj 7 (.one 8 (.aj 9 .done .nil)) .nil) .nil) (.aj 5 (.one 0 (.aj 7 (.one 8 (.aj 9 .done .nil)) .nil)) .nil)) .nil)))
 |_=> .done
def ajj:Nat→List Nat
 |0=>[0]
 |3=>[7]
 |5=>[12,13,14]
 |6=>[5,6]++rg 15 9
 |7=>[24]
 |8=>[25,26]
 |9=>[3,28]
 |10=>[4,29]
 |_=>[]
noncomputable def avA:Code:=f125.body.get (by kernel_rfl)
def ZO:Nat→Tree
 |2=>on (rg 0 19) (.aj 19 (.aj 20 (.one 21 (.one 22 .done)) .nil) .nil)
 |_=> .done
def acn:Nat→List Nat
 |0=>[0,6]
 |1=>rg 8 8
 |2=>rg 1 5++[7]++rg 16 22
 |_=>[]
noncomputable def c90:Code:=f90.body.get (by kernel_rfl)
def aeQ:Nat→Tree
 |_=> .done
def aje:Nat→List Nat
 |0=>[0,4,5]
 |1=>[8,9]
 |2=>[10]
 |3=>[6,12]
 |4=>[1,2,13,14,15,16]
 |5=>[17]
 |7=>[7,19]
 |_=>[]
noncomputable def avz:Code:=f126.body.get (by kernel_rfl)
def ZN:Nat→Tree
 |_=> .done
def acm:Nat→List Nat
 |0=>[0,1,6]
 |1=>[2,3,4,5]++rg 7 5
 |_=>[]
noncomputable def avy:Code:=f127.body.get (by kernel_rfl)
def ZM:Nat→Tree
 |_=> .done
def ack:Nat→List Nat
 |0=>[0,1,2,3,8]
 |1=>[4,5,6,7]++rg 9 27
 |_=>[]
noncomputable def avg:Code:=f153.body.get (by kernel_rfl)
def Zr:Nat→Tree
 |7=>on (rg 0 8) .done
 |_=> .done
def abY:Nat→List Nat
 |0=>[0,1,6]
 |1=>rg 11 19
 |3=>[31,32]
 |4=>[4,5]++rg 34 5
 |5=>[4,8]++rg 39 7
 |6=>[2,5,10]++rg 46 7
 |7=>[3,7,9]++rg 53 7
 |_=>[]
noncomputable def c86:Code:=f86.body.get (by kernel_rfl)
def aeU:Nat→Tree
 |_=> .done
def aji:Nat→List Nat
 |0=>[2]
 |1=>[3]
 |3=>[0,5,6,7]
 |_=>[]
noncomputable def c30:Code:=f30.body.get (by kernel_rfl)
def afy:Nat→Tree
 |_=> .done
def ajW:Nat→List Nat
 |0=>[0,3]
 |1=>[10,11]
 |2=>[12]
 |3=>[4,14,15]
 |4=>[16,17]
 |5=>[1,18,19,20]
 |7=>[6,21]
 |9=>[26,27,28]
 |10=>[8,29,30,31,32]
 |11=>[9]++rg 34 6
 |12=>[40]
 |13=>[7,41]
 |_=>[]
noncomputable def c88:Code:=f88.body.get (by kernel_rfl)
def aeS:Nat→Tree
 |3=>on (rg 0 9) (.aj 9 .done .nil)
 |4=>on (rg 0 5) (.aj 5 (.aj 6 (.one 7 .done) .nil) .nil)
 |_=> .done
def ajg:Nat→List Nat
 |0=>[2,8]
 |1=>[11]
 |2=>[10]++rg 13 7
 |3=>[3,4,9]++rg 20 9
 |4=>[0,7]++rg 29 7
 |_=>[]
noncomputable def auI(r:Nat):FI:=⟨fun _=>c88,36,[.tmp 8],aeS,[],r,ajg,none⟩
theorem abz(r:Nat):mg PP gL 88 (auI r):= .inr ⟨rfl,_,func88,by kernel_rfl,ntmps88,by kernel_rfl,by kernel_rfl,enters func88 (c:=c88) (by kernel_rfl) (by kernel_rfl)⟩
noncomputable def c31:Code:=f31.body.get (by kernel_rfl)
def afx:Nat→Tree
 |_=> .done
def ajV:Nat→List Nat
 |0=>[0,5]
 |1=>[1]++rg 19 6
 |2=>[25]
 |3=>[7,27,28]
 |5=>[6,29,30]
 |6=>[31]
 |7=>[32]
 |10=>[11,36]
 |12=>[41,42]
 |13=>rg 43 6
 |14=>[13,15]++rg 52 7
 |15=>[14,59,60]
 |16=>[61]
 |17=>[9,62,63]
 |19=>[2,65,66]
 |21=>[71,72,73]
 |22=>[17,74,75,76]
 |23=>[18]++rg 78 6
 |24=>[84]
 |25=>[16,85]
 |_=>[]
noncomputable def c14:Code:=f14.body.get (by kernel_rfl)
def afH:Nat→Tree
 |12=>on (rg 0 7++[8]) (.aj 7 (.one 9 .done) .nil)
 |24=>on (rg 0 8) (.aj 8 (.one 9 .done) .nil)
 |_=> .done
def aj5:Nat→List Nat
 |0=>[0,2]
 |1=>[11,12,13]
 |4=>[15,16,17,18]
 |5=>[20,21]
 |6=>rg 22 6
 |7=>[28]
 |8=>[4,30]
 |10=>[31,32,33,34]
 |11=>[36,37]
 |12=>rg 38 9
 |15=>[48,49,50,51]
 |16=>[53,54]
 |18=>rg 55 8
 |19=>[64,65]
 |20=>rg 66 9
 |22=>[75,76,77,78]
 |23=>[80,81]
 |24=>rg 82 9
 |25=>[91]
 |26=>[10,93]
 |27=>[8]++rg 94 6
 |_=>[]
noncomputable def c64:Code:=f64.body.get (by kernel_rfl)
def ae8:Nat→Tree
 |_=> .done
def ajw:Nat→List Nat
 |0=>[0,4]
 |2=>[6,7,8,9]
 |3=>[11,12]
 |4=>rg 13 7
 |5=>[5,21]
 |_=>[]
noncomputable def c63:Code:=f63.body.get (by kernel_rfl)
def ae9:Nat→Tree
 |34=>on (rg 0 28) .done
 |_=> .done
def ajx:Nat→List Nat
 |0=>[0,2]
 |1=>[10,11,12]
 |4=>[14,15,16,17]
 |5=>[19,20]
 |6=>rg 21 7
 |8=>[29,30]
 |11=>[32,33,34,35]
 |12=>[37,38]
 |13=>rg 39 6
 |15=>[46,47,48]
 |18=>[50,51,52,53]
 |19=>[55,56]
 |20=>rg 57 8
 |23=>[74,75,76,77]
 |24=>[79,80]
 |25=>rg 81 5
 |26=>[7,86,87,88,89,99,100]
 |29=>[110,111,112,113]
 |30=>[115,116]
 |32=>[117,118]
 |33=>[120,121]
 |34=>rg 122 14
 |_=>[]
noncomputable def avH:Code:=f112.body.get (by kernel_rfl)
def ZY:Nat→Tree
 |_=> .done
def acy:Nat→List Nat
 |0=>[2]
 |1=>[4,5]
 |4=>[7,8,9]
 |5=>[11,12]
 |6=>rg 13 5
 |_=>[]
noncomputable def avi:Code:=f151.body.get (by kernel_rfl)
def Zt:Nat→Tree
 |_=> .done
def ab0:Nat→List Nat
 |0=>[6]
 |1=>[0,1,2]++rg 7 8
 |_=>[]
noncomputable def c62:Code:=f62.body.get (by kernel_rfl)
def afa:Nat→Tree
 |_=> .done
def ajy:Nat→List Nat
 |0=>[6]
 |1=>[0,1,2]++rg 7 8
 |_=>[]
noncomputable def c65:Code:=f65.body.get (by kernel_rfl)
def ae7:Nat→Tree
 |20=>on (rg 0 10) .done
 |_=> .done
def ajv:Nat→List Nat
 |0=>[0,1,2,8]
 |1=>rg 14 5
 |2=>[19,20]
 |4=>rg 22 18
 |6=>[5]++rg 41 33
 |8=>rg 75 19
 |11=>[95,96,97,98]
 |12=>[100,101]
 |13=>rg 102 7
 |15=>[110,111]
 |17=>[113,114,115,116]
 |18=>[117]
 |20=>[4,11]++rg 119 9
 |22=>[3,6]++rg 129 5
 |24=>[134,135,136,137]
 |25=>[139,140]
 |26=>rg 141 7
 |_=>[]
noncomputable def avG:Code:=f113.body.get (by kernel_rfl)
def ZX:Nat→Tree
 |_=> .done
def acx:Nat→List Nat
 |0=>[2]
 |3=>[7,8,9]
 |4=>[11,12]
 |5=>rg 13 6
 |7=>rg 19 7
 |8=>[27,28]
 |9=>[29,30,50]
 |10=>[5,51,52,53,54]
 |11=>[3,55]
 |_=>[]
noncomputable def c18:Code:=f18.body.get (by kernel_rfl)
def afG:Nat→Tree
 |6=>on (rg 0 6++[7]) (.aj 6 (.one 8 (.aj 9 (.aj 10 (.aj 11 (.aj 12 (.aj 13 .done .nil) .nil) .nil) (.aj 11 (.aj 10 (.aj 12 (.aj 13 .done .nil) .nil) .nil) .nil)) (.aj 10 (.aj 9 (.aj 11 (.aj 12 (.aj 13 .done .nil) .nil) .nil) (.aj 11 (.aj 9 (.aj 12 (.aj 13 .done .nil) .nil) (.aj 12 (.one 9 (.aj 13 .done .nil)) .nil)) .nil)) (.aj 11 (.aj 9 (.aj 10 (.aj 12 (.aj 13 .done .nil) .nil) .nil) (.aj 10 (.aj 9 (.aj 12 (.aj 13 .done .nil) .nil) (.aj 12 (.one 9 (.aj 13 .done .nil)) .nil)) .nil)) .nil)))) (.aj 10 (.aj 6 (.one 8 (.aj 9 (.aj 11 (.aj 12 (.aj 13 .done .nil) .nil) .nil) (.aj 11 (.aj 9 (.aj 12 (.aj 13 .done .nil) .nil) (.aj 12 (.one 9 (.aj 13 .done .nil)) .nil)) .nil))) (.aj 11 (.aj 6 (.one 8 (.aj 9 (.aj 12 (.aj 13 .done .nil) .nil) (.aj 12 (.one 9 (.aj 13 .done .nil)) .nil))) (.aj 12 (on [6,8,9] (.aj 13 .done .nil)) .nil)) .nil)) (.aj 11 (.aj 6 (.one 8 (.aj 9 (.aj 10 (.aj 12 (.aj 13 .done .nil) .nil) .nil) (.aj 10 (.aj 9 (.aj 12 (.aj 13 .done .nil) .nil) (.aj 12 (.one 9 (.aj 13 .done .nil)) .nil)) .nil))) (.aj 10 (.aj 6 (.one 8 (.aj 9 (.aj 12 (.aj 13 .done .nil) .nil) (.aj 12 (.one 9 (.aj 13 .done .nil)) .nil))) (.aj 12 (on [6,8,9] (.aj 13 .done .nil)) .nil)) .nil)) .nil)))
 |12=>on (rg 0 10) (.aj 10 (.one 11 .done) .nil)
 |_=> .done
def aj4:Nat→List Nat
 |0=>[0,1,4]
 |1=>rg 9 6
 |4=>[16,17,18,19]
 |5=>[21,22]
 |6=>rg 23 10
 |7=>rg 33 6++[44,45]
 |10=>[54,55,56,57]
 |11=>[59,60]
 |12=>rg 61 11
 |_=>[]
noncomputable def c69:Code:=f69.body.get (by kernel_rfl)
def ae5:Nat→Tree
 |6=>on (rg 0 6++[7]) (.aj 6 (.one 8 (.aj 9 (.aj 10 (.aj 11 (.aj 12 (.aj 13 .done .nil) .nil) .nil) (.aj 11 (.aj 10 (.aj 12 (.aj 13 .done .nil) .nil) .nil) .nil)) (.aj 10 (.aj 9 (.aj 11 (.aj 12 (.aj 13 .done .nil) .nil) .nil) (.aj 11 (.aj 9 (.aj 12 (.aj 13 .done .nil) .nil) (.aj 12 (.one 9 (.aj 13 .done .nil)) .nil)) .nil)) (.aj 11 (.aj 9 (.aj 10 (.aj 12 (.aj 13 .done .nil) .nil) .nil) (.aj 10 (.aj 9 (.aj 12 (.aj 13 .done .nil) .nil) (.aj 12 (.one 9 (.aj 13 .done .nil)) .nil)) .nil)) .nil)))) (.aj 10 (.aj 6 (.one 8 (.aj 9 (.aj 11 (.aj 12 (.aj 13 .done .nil) .nil) .nil) (.aj 11 (.aj 9 (.aj 12 (.aj 13 .done .nil) .nil) (.aj 12 (.one 9 (.aj 13 .done .nil)) .nil)) .nil))) (.aj 11 (.aj 6 (.one 8 (.aj 9 (.aj 12 (.aj 13 .done .nil) .nil) (.aj 12 (.one 9 (.aj 13 .done .nil)) .nil))) (.aj 12 (on [6,8,9] (.aj 13 .done .nil)) .nil)) .nil)) (.aj 11 (.aj 6 (.one 8 (.aj 9 (.aj 10 (.aj 12 (.aj 13 .done .nil) .nil) .nil) (.aj 10 (.aj 9 (.aj 12 (.aj 13 .done .nil) .nil) (.aj 12 (.one 9 (.aj 13 .done .nil)) .nil)) .nil))) (.aj 10 (.aj 6 (.one 8 (.aj 9 (.aj 12 (.aj 13 .done .nil) .nil) (.aj 12 (.one 9 (.aj 13 .done .nil)) .nil))) (.aj 12 (on [6,8,9] (.aj 13 .done .nil)) .nil)) .nil)) .nil)))
 |12=>on (rg 0 11) .done
 |_=> .done
def ajt:Nat→List Nat
 |0=>[0,1,4]
 |1=>rg 9 27
 |4=>[37,38,39,40]
 |5=>[42,43]
 |6=>rg 44 10
 |7=>rg 54 6++[65,66,72,73]
 |10=>[82,83,84,85]
 |11=>[87,88]
 |12=>rg 89 10
 |_=>[]
noncomputable def c26:Code:=f26.body.get (by kernel_rfl)
def afC:Nat→Tree
 |10=>on (rg 0 36) (.aj 36 .done .nil)
 |23=>on (rg 0 20) (.aj 20 (.one 21 .done) .nil)
 |_=> .done
def aj0:Nat→List Nat
 |0=>[0,2]
 |1=>[14,15,16]
 |2=>[17,18]
 |4=>[19,20]
 |5=>[22,23]
 |6=>rg 24 5
 |8=>[29,30]
 |9=>[32,33]
 |10=>rg 34 19++[68,69]
 |12=>[7]
 |15=>[71,72]
 |16=>[74,75]
 |18=>[76,77]
 |19=>[79,80]
 |21=>rg 81 8
 |22=>[99,100]
 |23=>rg 101 21
 |24=>rg 123 6
 |28=>[129,130]
 |29=>[132,133]
 |31=>rg 134 7
 |32=>[142,143]
 |33=>[13,144,145,146,147]
 |34=>[11,148]
 |_=>[]
noncomputable def c82:Code:=f82.body.get (by kernel_rfl)
def aeY:Nat→Tree
 |6=>on (rg 0 6++[7]) (.aj 6 (.one 8 (.aj 9 (.aj 10 (.aj 11 (.aj 12 (.aj 13 .done .nil) .nil) .nil) (.aj 11 (.aj 10 (.aj 12 (.aj 13 .done .nil) .nil) .nil) .nil)) (.aj 10 (.aj 9 (.aj 11 (.aj 12 (.aj 13 .done .nil) .nil) .nil) (.aj 11 (.aj 9 (.aj 12 (.aj 13 .done .nil) .nil) (.aj 12 (.one 9 (.aj 13 .done .nil)) .nil)) .nil)) (.aj 11 (.aj 9 (.aj 10 (.aj 12 (.aj 13 .done .nil) .nil) .nil) (.aj 10 (.aj 9 (.aj 12 (.aj 13 .done .nil) .nil) (.aj 12 (.one 9 (.aj 13 .done .nil)) .nil)) .nil)) .nil)))) (.aj 10 (.aj 6 (.one 8 (.aj 9 (.aj 11 (.aj 12 (.aj 13 .done .nil) .nil) .nil) (.aj 11 (.aj 9 (.aj 12 (.aj 13 .done .nil) .nil) (.aj 12 (.one 9 (.aj 13 .done .nil)) .nil)) .nil))) (.aj 11 (.aj 6 (.one 8 (.aj 9 (.aj 12 (.aj 13 .done .nil) .nil) (.aj 12 (.one 9 (.aj 13 .done .nil)) .nil))) (.aj 12 (on [6,8,9] (.aj 13 .done .nil)) .nil)) .nil)) (.aj 11 (.aj 6 (.one 8 (.aj 9 (.aj 10 (.aj 12 (.aj 13 .done .nil) .nil) .nil) (.aj 10 (.aj 9 (.aj 12 (.aj 13 .done .nil) .nil) (.aj 12 (.one 9 (.aj 13 .done .nil)) .nil)) .nil))) (.aj 10 (.aj 6 (.one 8 (.aj 9 (.aj 12 (.aj 13 .done .nil) .nil) (.aj 12 (.one 9 (.aj 13 .done .nil)) .nil))) (.aj 12 (on [6,8,9] (.aj 13 .done .nil)) .nil)) .nil)) .nil)))
 |8=>on [0,1,2,3,7,8,9] (.aj 4 (.one 5 (.one 6 (.aj 10 (on [11,12,13] .done) .nil))) .nil)
 |_=> .done
def ajm:Nat→List Nat
 |0=>[0,2,3,8]
 |1=>rg 12 27
 |4=>[40,41,42,43]
 |5=>[45,46]
 |6=>rg 47 10
 |7=>[57,58,59,62,63]
 |8=>rg 70 13
 |10=>[84,85]
 |11=>[10,11,86,87,88]
 |_=>[]
noncomputable def c83:Code:=f83.body.get (by kernel_rfl)
def aeX:Nat→Tree
 |_=> .done
def ajl:Nat→List Nat
 |0=>[0,2]
 |1=>[1]++rg 3 8
 |_=>[]
noncomputable def avB:Code:=f124.body.get (by kernel_rfl)
def ZP:Nat→Tree
 |6=>on (rg 0 11) .done
 |_=> .done
def aco:Nat→List Nat
 |0=>[0,1,4]
 |1=>rg 6 27
 |4=>[34,35,36,37]
 |5=>[39,40]
 |6=>rg 41 10
 |_=>[]
noncomputable def c27:Code:=f27.body.get (by kernel_rfl)
def afB:Nat→Tree
 |7=>on (rg 0 12) (.aj 12 (.aj 13 (.aj 14 .done .nil) .nil) (.aj 13 (.aj 12 (.aj 14 .done .nil) .nil) .nil))
 |18=>on (rg 0 6) (.aj 6 (on (rg 7 6) (.aj 13 .done .nil)) .nil)
 |_=> .done
def ajZ:Nat→List Nat
 |0=>[0]
 |1=>[12,13]
 |4=>[14,15,16,17]
 |5=>[19,20]
 |6=>rg 21 5
 |7=>rg 27 13
 |9=>rg 40 8
 |10=>[49,50]
 |11=>rg 51 9
 |12=>rg 60 7
 |14=>[67,68,69,70]
 |15=>[72,73]
 |16=>rg 74 5
 |17=>[79]
 |18=>rg 81 13
 |19=>[11]++rg 94 6
 |20=>[9]++rg 100 6
 |21=>[6]++rg 106 6
 |22=>[4,112]
 |_=>[]
noncomputable def c28:Code:=f28.body.get (by kernel_rfl)
def afA:Nat→Tree
 |8=>on (rg 0 8) (.aj 8 (.aj 9 .done .nil) .nil)
 |23=>on (rg 0 7) (.aj 7 (.aj 8 (.one 9 (.aj 10 .done .nil)) .nil) .nil)
 |_=> .done
def ajY:Nat→List Nat
 |0=>[0,5]
 |1=>[1,15,16,17]
 |2=>[18]
 |3=>[20]
 |4=>[6,21,22]
 |6=>[23,24,25]
 |7=>[27,28]
 |8=>rg 29 8
 |10=>[37,38,39,40]
 |11=>[42,43]
 |13=>rg 44 8
 |14=>[53,54]
 |15=>rg 55 9
 |16=>[64,65,66]
 |17=>[12]++rg 75 7
 |20=>[82,83,84,85]
 |21=>[87,88]
 |22=>[89,90]
 |23=>rg 92 10
 |24=>[13,102]
 |_=>[]
noncomputable def c84:Code:=f84.body.get (by kernel_rfl)
def aeW:Nat→Tree
 |_=> .done
def ajk:Nat→List Nat
 |0=>[4]
 |2=>[6,7,8]
 |3=>[10,11]
 |4=>rg 12 5
 |_=>[]
end Ab
