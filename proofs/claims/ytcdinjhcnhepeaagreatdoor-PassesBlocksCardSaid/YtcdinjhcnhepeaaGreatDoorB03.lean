/- PassesBlocks holds of all cores and names (no condition): a part of the proof: an abstract interpreter of the code that is proved sound, models of the functions, and laws of these models. -/
import Derived.Test.YtcdinjhcnhepeaaGreatDoorB02
import Derived.KernelRfl
set_option linter.unusedVariables false
set_option linter.unusedSimpArgs false
set_option linter.unusedSectionVars false
namespace Ab
open Go
set_option maxHeartbeats 100000000
set_option maxRecDepth 100000
def L9(I:Pr)(M:Md)(n:Nat)(br:ah)(m:Nat):Nat→List Bool→Int→Option (List Bool)
 |0=>fun _ _=>none
 |k+1=>fun l x=>
  (gN m x).bind fun k1=>
  (gK l k1).bind fun x2=>
  bif x2 then some l else
  (nO l k1 true).bind fun l3=>
  (gI br.ops x).bind fun x4=>
  bif (I.aU x4.kind 3)then
   (some (au x4.args)).bind fun n5=>
   iter (fun(self:List Bool×Int→Option (List Bool)) st=>match st with
    |(l6,z7)=>
     bif (I.bg z7 n5)then
      (gI x4.args z7).bind fun x8=>
      (L9 I M n br m k l6 x8).bind fun l9=>
      self (l9,(I.wrap .i64 (I.add z7 1)))
     else some l6) n (l3,0)
  else some l3
def kE(I:Pr)(M:Md)(n:Nat)(a0:List Int):Option (List Int):=
 (KE 8 [] a0).bind fun l1=>
 some l1
def fJ:ByteArray:=⟨#[111,110,101,115]⟩
def sf:ByteArray:=⟨#[109,111,114,101]⟩
def ahZ(k:ByteArray):List aH:=[⟨3,⟨#[97]⟩,0,[]⟩,⟨5,k,0,[]⟩,⟨3,⟨#[99,111,110,115]⟩,0,[0,1]⟩]
def DJ(k:ByteArray):ai:=⟨k,0,[⟨⟨#[]⟩,0,ahZ k,2⟩]⟩
def uK(I:Pr)(M:Md)(n:Nat):Option af:=some ⟨[DJ fJ,DJ sf]⟩
def jf(I:Pr)(M:Md)(n:Nat)(a0:aH):Option Bool:=
 (some (lF a0.name)).bind fun n1=>
 (some (au a0.args)).bind fun n2=>
 some (I.pick (I.bg 40 n1) true (I.bg 9 n2))
def lD(I:Pr)(M:Md)(n:Nat)(a0:List aH)(n1:Int)(k:Int→Option Int)(self:Int→Option Int)(z2:Int):Option Int:=
 bif (I.bg z2 n1)then
  (gI a0 z2).bind fun x3=>
  (jf I M n x3).bind fun y4=>
  bif y4 then
  some z2
  else
  self (I.wrap .i64 (I.add z2 1))
 else
  k z2
def mS(I:Pr)(M:Md)(n:Nat)(a0:List aH):Option Int:=
 (some (au a0)).bind fun n1=>
 iter (lD I M n a0 n1 (fun z5=>
  some (-1))) n 0
def fQ(I:Pr)(M:Md)(n:Nat)(a0:List aH):Option Bool:=
 (mS I M n a0).bind fun y1=>
 some (I.uT 0 y1)
def lP(I:Pr)(M:Md)(n:Nat)(a0:ah):Option Bool:=
 (some (lF a0.head)).bind fun n1=>
 (some (au a0.ops)).bind fun n2=>
 (fN (I.pick (I.bg 40 n1) true (I.bg 70 n2)) false (fQ I M n a0.ops) default).bind fun y3=>
 some (I.pick (I.pick (I.bg 40 n1) true (I.bg 70 n2)) true y3)
def iZ(I:Pr)(M:Md)(n:Nat)(a0:List ah)(n1:Int)(k:Int→Option Int)(self:Int→Option Int)(z2:Int):Option Int:=
 bif (I.bg z2 n1)then
  (gI a0 z2).bind fun x3=>
  (lP I M n x3).bind fun y4=>
  bif y4 then
  some z2
  else
  self (I.wrap .i64 (I.add z2 1))
 else
  k z2
def jY(I:Pr)(M:Md)(n:Nat)(a0:List ah):Option Int:=
 (some (au a0)).bind fun n1=>
 iter (iZ I M n a0 n1 (fun z5=>
  some (-1))) n 0
def ef(I:Pr)(M:Md)(n:Nat)(a0:List ah):Option Bool:=
 (jY I M n a0).bind fun y1=>
 some (I.uT 0 y1)
def oU(I:Pr)(M:Md)(n:Nat)(a0:ai):Option Bool:=
 (some (lF a0.name)).bind fun n1=>
 (some (au a0.ae)).bind fun n2=>
 (fN (I.pick (I.bg 40 n1) true (I.bg 9 n2)) false (ef I M n a0.ae) default).bind fun y3=>
 some (I.pick (I.pick (I.bg 40 n1) true (I.bg 9 n2)) true y3)
def jF(I:Pr)(M:Md)(n:Nat)(a0:List ai)(n1:Int)(k:Int→Option Int)(self:Int→Option Int)(z2:Int):Option Int:=
 bif (I.bg z2 n1)then
  (gI a0 z2).bind fun x3=>
  (oU I M n x3).bind fun y4=>
  bif y4 then
  some z2
  else
  self (I.wrap .i64 (I.add z2 1))
 else
  k z2
def kU(I:Pr)(M:Md)(n:Nat)(a0:List ai):Option Int:=
 (some (au a0)).bind fun n1=>
 iter (jF I M n a0 n1 (fun z5=>
  some (-1))) n 0
def eI(I:Pr)(M:Md)(n:Nat)(a0:List ai):Option Bool:=
 (kU I M n a0).bind fun y1=>
 some (I.uT 0 y1)
def xN(I:Pr)(M:Md)(n:Nat)(a0:af):Option Bool:=
 (some (au a0.ab)).bind fun n1=>
 (fN (I.bg 16 n1) false (eI I M n a0.ab) default).bind fun y2=>
 some (I.pick (I.bg 16 n1) true y2)
def bO(I:Pr)(M:Md)(n:Nat)(a0:Int)(a1:ByteArray)(a2:Int)(a3:List Int):Option aH:=
 some (⟨a0,a1,a2,a3⟩:aH)
def dr(I:Pr)(M:Md)(n:Nat)(a0:Int)(a1:List aH):Option (List ah):=
 some ([(⟨⟨#[]⟩,0,a1,a0⟩:ah)])
def cG(I:Pr)(M:Md)(n:Nat)(a0:ByteArray)(a1:Int)(a2:List ah):Option ai:=
 some (⟨a0,a1,a2⟩:ai)
def qY(I:Pr)(M:Md)(n:Nat)(a0:List ai):Option af:=
 some (⟨a0⟩:af)
def qu(I:Pr)(M:Md)(n:Nat):Option af:=
 (bO I M n 3 (⟨#[97]⟩:ByteArray) 0 []).bind fun y1=>
 (bO I M n 5 (⟨#[111,110,101,115]⟩:ByteArray) 0 []).bind fun y2=>
 (bO I M n 3 (⟨#[99,111,110,115]⟩:ByteArray) 0 ([0,1])).bind fun y3=>
 (dr I M n 2 ([y1,y2,y3])).bind fun y4=>
 (cG I M n (⟨#[111,110,101,115]⟩:ByteArray) 0 y4).bind fun y5=>
 (bO I M n 1 (⟨#[]⟩:ByteArray) 0 []).bind fun y6=>
 (dr I M n 0 ([y6])).bind fun y7=>
 (cG I M n (⟨#[105,100]⟩:ByteArray) 1 y7).bind fun y8=>
 (bO I M n 4 (⟨#[111,110,101,115]⟩:ByteArray) 0 []).bind fun y9=>
 (bO I M n 5 (⟨#[105,100]⟩:ByteArray) 0 ([0])).bind fun yU=>
 (bO I M n 5 (⟨#[111,110,101,115]⟩:ByteArray) 0 []).bind fun uf=>
 (bO I M n 3 (⟨#[112]⟩:ByteArray) 0 ([1,2])).bind fun Ns=>
 (dr I M n 3 ([y9,yU,uf,Ns])).bind fun ue=>
 (cG I M n (⟨#[116,119,111]⟩:ByteArray) 0 ue).bind fun Nr=>
 (qY I M n ([y5,y8,Nr])).bind fun KN=>
 some KN
def Bc(I:Pr)(M:Md)(n:Nat)(a0:ah):Option Bool:=
 (some (au a0.ops)).bind fun n1=>
 some (I.pick (I.bg 0 n1) (I.uT n1 60) false)
def iO(I:Pr)(M:Md)(n:Nat)(a0:ah):Option Bool:=
 (Bc I M n a0).bind fun y1=>
 some (I.not y1)
def iY(I:Pr)(M:Md)(n:Nat)(a0:List ah)(n1:Int)(k:Int→Option Int)(self:Int→Option Int)(z2:Int):Option Int:=
 bif (I.bg z2 n1)then
  (gI a0 z2).bind fun x3=>
  (iO I M n x3).bind fun y4=>
  bif y4 then
  some z2
  else
  self (I.wrap .i64 (I.add z2 1))
 else
  k z2
def jX(I:Pr)(M:Md)(n:Nat)(a0:List ah):Option Int:=
 (some (au a0)).bind fun n1=>
 iter (iY I M n a0 n1 (fun z5=>
  some (-1))) n 0
def iw(I:Pr)(M:Md)(n:Nat)(a0:List ah):Option Bool:=
 (jX I M n a0).bind fun y1=>
 some (I.uT 0 y1)
def ko(I:Pr)(M:Md)(n:Nat)(a0:List ah):Option Bool:=
 (iw I M n a0).bind fun y1=>
 some (I.not y1)
def Bb(I:Pr)(M:Md)(n:Nat)(a0:ah):Option Bool:=
 some (I.pick (I.uT 0 a0.aN) (I.uT a0.aN 4) false)
def iN(I:Pr)(M:Md)(n:Nat)(a0:ah):Option Bool:=
 (Bb I M n a0).bind fun y1=>
 some (I.not y1)
def iX(I:Pr)(M:Md)(n:Nat)(a0:List ah)(n1:Int)(k:Int→Option Int)(self:Int→Option Int)(z2:Int):Option Int:=
 bif (I.bg z2 n1)then
  (gI a0 z2).bind fun x3=>
  (iN I M n x3).bind fun y4=>
  bif y4 then
  some z2
  else
  self (I.wrap .i64 (I.add z2 1))
 else
  k z2
def jW(I:Pr)(M:Md)(n:Nat)(a0:List ah):Option Int:=
 (some (au a0)).bind fun n1=>
 iter (iX I M n a0 n1 (fun z5=>
  some (-1))) n 0
def iv(I:Pr)(M:Md)(n:Nat)(a0:List ah):Option Bool:=
 (jW I M n a0).bind fun y1=>
 some (I.uT 0 y1)
def kn(I:Pr)(M:Md)(n:Nat)(a0:List ah):Option Bool:=
 (iv I M n a0).bind fun y1=>
 some (I.not y1)
def mh(I:Pr)(M:Md)(n:Nat)(a1:Int)(k:ByteArray→Option ByteArray)(self:ByteArray→Option ByteArray)(z1:ByteArray):Option ByteArray:=
 (some (lF z1)).bind fun n2=>
 (fN (I.bg 0 n2) true (gB z1 (I.wrap .i64 (I.sub n2 1))) default).bind fun x3=>
 bif (I.pick (I.bg 0 n2) (I.aU x3 a1) false)then
  (Gx z1 0 (I.wrap .i64 (I.sub n2 1))).bind fun s4=>
  self s4
 else
  k z1
def nT(I:Pr)(M:Md)(n:Nat)(a0:ByteArray)(a1:Int):Option ByteArray:=
 iter (mh I M n a1 (fun z5=>
  some z5)) n a0
def mP(I:Pr)(M:Md)(n:Nat)(a1:Int)(k:ByteArray→Option ByteArray)(self:ByteArray→Option ByteArray)(z1:ByteArray):Option ByteArray:=
 (some (lF z1)).bind fun n2=>
 (fN (I.bg 0 n2) true (gB z1 0) default).bind fun x3=>
 bif (I.pick (I.bg 0 n2) (I.aU x3 a1) false)then
  (Gx z1 1 (lF z1)).bind fun s4=>
  self s4
 else
  k z1
def oH(I:Pr)(M:Md)(n:Nat)(a0:ByteArray)(a1:Int):Option ByteArray:=
 iter (mP I M n a1 (fun z5=>
  some z5)) n a0
def mQ(I:Pr)(M:Md)(n:Nat)(a0:ByteArray)(k:(List Bool)×Int→Option ((List Bool)×Bool))(self:(List Bool)×Int→Option ((List Bool)×Bool))(st:(List Bool)×Int):Option ((List Bool)×Bool):=
 match st with
 |(l2,z3)=>
 (some (lF a0)).bind fun n4=>
 bif (I.bg z3 n4)then
  (gB a0 z3).bind fun x5=>
  bif (I.uT 128 x5)then
  (lx 256 l2).bind fun u6=>
  (lx 256 l2).bind fun u7=>
  (lx 256 l2).bind fun u8=>
  some (l2,false)
  else
  (gN 256 x5).bind fun k9=>
  (gK l2 k9).bind fun Dz=>
  (nO l2 k9 true).bind fun zX=>
  self (zX,(I.wrap .i64 (I.add z3 1)))
 else
  k (l2,z3)
def jQ(I:Pr)(M:Md)(n:Nat)(a0:ByteArray):Option ((List Bool)×Bool):=
 (some (List.replicate 256 (false:Bool))).bind fun l1=>
 iter (mQ I M n a0 (fun(gJ,lV)=>
  (lx 256 gJ).bind fun u14=>
  (lx 256 gJ).bind fun u15=>
  (lx 256 gJ).bind fun u16=>
  some (gJ,true))) n (l1,0)
def cj(I:Pr)(M:Md)(n:Nat)(y6:(List Bool)×Bool)(k:ByteArray→Option ByteArray)(self:ByteArray→Option ByteArray)(Bz:ByteArray):Option ByteArray:=
 (some (lF Bz)).bind fun CW=>
 bif (I.bg 0 CW)then
  (gB Bz 0).bind fun pA=>
  (gN 256 pA).bind fun WT=>
  (gK y6.1 WT).bind fun KP=>
  bif (I.not KP)then
  k Bz
  else
  (Gx Bz 1 (lF Bz)).bind fun s21=>
  self s21
 else
  k Bz
def cQ(I:Pr)(M:Md)(n:Nat)(y6:(List Bool)×Bool)(k:ByteArray→Option ByteArray)(self:ByteArray→Option ByteArray)(z9:ByteArray):Option ByteArray:=
 (some (lF z9)).bind fun BW=>
 bif (I.bg 0 BW)then
  (gB z9 (I.wrap .i64 (I.sub BW 1))).bind fun Ac=>
  (gN 256 Ac).bind fun k12=>
  (gK y6.1 k12).bind fun GU=>
  bif (I.not GU)then
  k z9
  else
  (Gx z9 0 (I.wrap .i64 (I.sub BW 1))).bind fun s22=>
  self s22
 else
  k z9
def kC(I:Pr)(M:Md)(n:Nat)(a0:ByteArray)(a1:ByteArray):Option ByteArray:=
 bif (I.pick (I.seq a0 (⟨#[]⟩:ByteArray)) true (I.seq a1 (⟨#[]⟩:ByteArray)))then
 some a0
 else
 (some (lF a1)).bind fun n1=>
 (fN (I.aU n1 1) true (gB a1 0) default).bind fun x2=>
 bif (I.pick (I.aU n1 1) (I.bg x2 128) false)then
  (gB a1 0).bind fun x3=>
  (nT I M n a0 x3).bind fun y4=>
  (oH I M n y4 x3).bind fun y5=>
  some y5
 else
  (jQ I M n a1).bind fun y6=>
  (some (List.replicate 256 (false:Bool))).bind fun l7=>
  (lx 256 l7).bind fun u8=>
  bif y6.2 then
  iter (cQ I M n y6 (fun fc=>
   iter (cj I M n y6 (fun ED=>
    some ED)) n fc)) n a0
  else
  none
def om(I:Pr)(M:Md)(n:Nat)(a0:ByteArray):Option Bool:=
 (some (lF a0)).bind fun n1=>
 (fN (I.pick (I.bg 0 n1) (I.uT n1 8) false) true (kC I M n a0 (⟨#[97,98,99,100,101,102,103,104,105,106,107,108,109,110,111,112,113,114,115,116,117,118,119,120,121,122]⟩:ByteArray)) default).bind fun y2=>
 some (I.pick (I.pick (I.bg 0 n1) (I.uT n1 8) false) (I.seq y2 (⟨#[]⟩:ByteArray)) false)
def kO(I:Pr)(M:Md)(n:Nat)(a0:ah):Option Bool:=
 some (I.seq a0.head (⟨#[]⟩:ByteArray))
def ma(I:Pr)(M:Md)(n:Nat)(a0:ah):Option Bool:=
 (kO I M n a0).bind fun y1=>
 (fN y1 false (om I M n a0.head) default).bind fun y2=>
 some (I.pick y1 true y2)
def iM(I:Pr)(M:Md)(n:Nat)(a0:ah):Option Bool:=
 (ma I M n a0).bind fun y1=>
 some (I.not y1)
def iW(I:Pr)(M:Md)(n:Nat)(a0:List ah)(n1:Int)(k:Int→Option Int)(self:Int→Option Int)(z2:Int):Option Int:=
 bif (I.bg z2 n1)then
  (gI a0 z2).bind fun x3=>
  (iM I M n x3).bind fun y4=>
  bif y4 then
  some z2
  else
  self (I.wrap .i64 (I.add z2 1))
 else
  k z2
def jV(I:Pr)(M:Md)(n:Nat)(a0:List ah):Option Int:=
 (some (au a0)).bind fun n1=>
 iter (iW I M n a0 n1 (fun z5=>
  some (-1))) n 0
def iu(I:Pr)(M:Md)(n:Nat)(a0:List ah):Option Bool:=
 (jV I M n a0).bind fun y1=>
 some (I.uT 0 y1)
def km(I:Pr)(M:Md)(n:Nat)(a0:List ah):Option Bool:=
 (iu I M n a0).bind fun y1=>
 some (I.not y1)
def lZ(I:Pr)(M:Md)(n:Nat)(a0:ah)(a2:ai):Option Bool:=
 (kO I M n a0).bind fun y1=>
 (some (au a2.ae)).bind fun n2=>
 some (I.pick y1 (I.pick (I.bg 1 n2) true (I.not (I.aU a0.aN 0))) false)
def iV(I:Pr)(M:Md)(n:Nat)(a0:List ah)(vU:ai)(n1:Int)(k:Int→Option Int)(self:Int→Option Int)(z2:Int):Option Int:=
 bif (I.bg z2 n1)then
  (gI a0 z2).bind fun x3=>
  (lZ I M n x3 vU).bind fun y4=>
  bif y4 then
  some z2
  else
  self (I.wrap .i64 (I.add z2 1))
 else
  k z2
def jU(I:Pr)(M:Md)(n:Nat)(a0:List ah)(vU:ai):Option Int:=
 (some (au a0)).bind fun n1=>
 iter (iV I M n a0 vU n1 (fun z5=>
  some (-1))) n 0
def ed(I:Pr)(M:Md)(n:Nat)(a0:List ah)(vU:ai):Option Bool:=
 (jU I M n a0 vU).bind fun y1=>
 some (I.uT 0 y1)
def iL(I:Pr)(M:Md)(n:Nat)(a0:ah):Option Bool:=
 (kO I M n a0).bind fun y1=>
 some (I.not y1)
def iU(I:Pr)(M:Md)(n:Nat)(a0:List ah)(n1:Int)(k:Int→Option Int)(self:Int→Option Int)(z2:Int):Option Int:=
 bif (I.bg z2 n1)then
  (gI a0 z2).bind fun x3=>
  (iL I M n x3).bind fun y4=>
  bif y4 then
  some z2
  else
  self (I.wrap .i64 (I.add z2 1))
 else
  k z2
def jT(I:Pr)(M:Md)(n:Nat)(a0:List ah):Option Int:=
 (some (au a0)).bind fun n1=>
 iter (iU I M n a0 n1 (fun z5=>
  some (-1))) n 0
def ir(I:Pr)(M:Md)(n:Nat)(a0:List ah):Option Bool:=
 (jT I M n a0).bind fun y1=>
 some (I.uT 0 y1)
def kj(I:Pr)(M:Md)(n:Nat)(a0:List ah):Option Bool:=
 (ir I M n a0).bind fun y1=>
 some (I.not y1)
def nB(I:Pr)(M:Md)(n:Nat)(a0:ah)(a1:ah):Option Bool:=
 some (I.pick (I.seq a0.head a1.head) (I.aU a0.aN a1.aN) false)
def iS(I:Pr)(M:Md)(n:Nat)(a0:List ah)(ba:ah)(n1:Int)(k:Int→Option Int)(self:Int→Option Int)(z2:Int):Option Int:=
 bif (I.bg z2 n1)then
  (gI a0 z2).bind fun x3=>
  (nB I M n x3 ba).bind fun y4=>
  bif y4 then
  some z2
  else
  self (I.wrap .i64 (I.add z2 1))
 else
  k z2
def fv(I:Pr)(M:Md)(n:Nat)(a0:List ah)(ba:ah):Option Int:=
 (some (au a0)).bind fun n1=>
 iter (iS I M n a0 ba n1 (fun z5=>
  some (-1))) n 0
def nA(I:Pr)(M:Md)(n:Nat)(a0:ah)(a1:ah):Option Bool:=
 some (I.pick (I.seq a0.head a1.head) (I.aU a0.aN a1.aN) false)
def iR(I:Pr)(M:Md)(n:Nat)(a0:List ah)(ba:ah)(n1:Int)(k:Int→Option Int)(self:Int→Option Int)(z2:Int):Option Int:=
 bif (I.bg z2 n1)then
  (gI a0 z2).bind fun x3=>
  (nA I M n x3 ba).bind fun y4=>
  bif y4 then
  some z2
  else
  self (I.wrap .i64 (I.add z2 1))
 else
  k z2
def fu(I:Pr)(M:Md)(n:Nat)(a0:List ah)(ba:ah):Option Int:=
 (some (au a0)).bind fun n1=>
 iter (iR I M n a0 ba n1 (fun z5=>
  some (-1))) n 0
def jj(I:Pr)(M:Md)(n:Nat)(a0:ah)(a1:ai):Option Bool:=
 (fv I M n a1.ae a0).bind fun y1=>
 (Gv a1.ae (I.wrap .i64 (I.add y1 1)) (au a1.ae)).bind fun l2=>
 (fu I M n l2 a0).bind fun y3=>
 some (I.uT 0 y3)
def iT(I:Pr)(M:Md)(n:Nat)(a0:List ah)(ba:ai)(n1:Int)(k:Int→Option Int)(self:Int→Option Int)(z2:Int):Option Int:=
 bif (I.bg z2 n1)then
  (gI a0 z2).bind fun x3=>
  (jj I M n x3 (⟨ba.name,ba.aG,ba.ae⟩:ai)).bind fun y4=>
  bif y4 then
  some z2
  else
  self (I.wrap .i64 (I.add z2 1))
 else
  k z2
def jS(I:Pr)(M:Md)(n:Nat)(a0:List ah)(ba:ai):Option Int:=
 (some (au a0)).bind fun n1=>
 iter (iT I M n a0 ba n1 (fun z5=>
  some (-1))) n 0
def cN(I:Pr)(M:Md)(n:Nat)(a0:List ah)(ba:ai):Option Bool:=
 (jS I M n a0 (⟨ba.name,ba.aG,ba.ae⟩:ai)).bind fun y1=>
 some (I.uT 0 y1)
def vl(I:Pr)(M:Md)(n:Nat)(a0:ai):Option Int:=
 (some (au a0.ae)).bind fun n1=>
 (fN (I.pick (I.bg n1 1) true (I.bg 6 n1)) false (ko I M n a0.ae) default).bind fun y2=>
 bif (I.pick (I.pick (I.bg n1 1) true (I.bg 6 n1)) true (I.not y2))then
 some 2
 else
 (fN (I.pick (I.bg a0.aG 0) true (I.bg 4 a0.aG)) false (kn I M n a0.ae) default).bind fun y3=>
 bif (I.pick (I.pick (I.bg a0.aG 0) true (I.bg 4 a0.aG)) true (I.not y3))then
  some 3
 else
  (om I M n a0.name).bind fun y4=>
  (fN (I.not y4) false (km I M n a0.ae) default).bind fun y5=>
  bif (I.pick (I.not y4) true (I.not y5))then
  some 4
  else
  (ed I M n a0.ae (⟨a0.name,a0.aG,a0.ae⟩:ai)).bind fun y6=>
  bif y6 then
   some 7
  else
   (fN (I.aU a0.aG 0) true (kj I M n a0.ae) default).bind fun y7=>
   bif (I.pick (I.aU a0.aG 0) (I.not y7) false)then
   some 7
   else
   (cN I M n a0.ae (⟨a0.name,a0.aG,a0.ae⟩:ai)).bind fun y8=>
   bif y8 then
    some 5
   else
    some 0
def nC(I:Pr)(M:Md)(n:Nat)(a0:ai)(a1:ByteArray):Option Bool:=
 some (I.seq a0.name a1)
def jE(I:Pr)(M:Md)(n:Nat)(a0:List ai)(ba:ByteArray)(n1:Int)(k:Int→Option Int)(self:Int→Option Int)(z2:Int):Option Int:=
 bif (I.bg z2 n1)then
  (gI a0 z2).bind fun x3=>
  (nC I M n x3 ba).bind fun y4=>
  bif y4 then
  some z2
  else
  self (I.wrap .i64 (I.add z2 1))
 else
  k z2
def fP(I:Pr)(M:Md)(n:Nat)(a0:List ai)(ba:ByteArray):Option Int:=
 (some (au a0)).bind fun n1=>
 iter (jE I M n a0 ba n1 (fun z5=>
  some (-1))) n 0
def cV(I:Pr)(M:Md)(n:Nat)(a0:ByteArray)(a1:af):Option Int:=
 (fP I M n a1.ab a0).bind fun y1=>
 some y1
def Be(I:Pr)(M:Md)(n:Nat)(a0:Int)(a1:Int):Option Bool:=
 some (I.pick (I.uT 0 a0) (I.bg a0 a1) false)
def lu(I:Pr)(M:Md)(n:Nat)(a0:Int)(ba:Int):Option Bool:=
 (Be I M n a0 ba).bind fun y1=>
 some (I.not y1)
def kS(I:Pr)(M:Md)(n:Nat)(a0:List Int)(rp:Int)(n1:Int)(k:Int→Option Int)(self:Int→Option Int)(z2:Int):Option Int:=
 bif (I.bg z2 n1)then
  (gI a0 z2).bind fun x3=>
  (lu I M n x3 rp).bind fun y4=>
  bif y4 then
  some z2
  else
  self (I.wrap .i64 (I.add z2 1))
 else
  k z2
def mn(I:Pr)(M:Md)(n:Nat)(a0:List Int)(rp:Int):Option Int:=
 (some (au a0)).bind fun n1=>
 iter (kS I M n a0 rp n1 (fun z5=>
  some (-1))) n 0
def fy(I:Pr)(M:Md)(n:Nat)(a0:List Int)(rp:Int):Option Bool:=
 (mn I M n a0 rp).bind fun y1=>
 some (I.uT 0 y1)
def jJ(I:Pr)(M:Md)(n:Nat)(a0:List Int)(ba:Int):Option Bool:=
 (fy I M n a0 ba).bind fun y1=>
 some (I.not y1)
def nz(I:Pr)(M:Md)(n:Nat)(a0:Int)(a1:List Bool):Option Bool:=
 (gI a1 a0).bind fun x1=>
 some x1
def kR(I:Pr)(M:Md)(n:Nat)(a0:List Int)(ba:List Bool)(n1:Int)(k:Int→Option Int)(self:Int→Option Int)(z2:Int):Option Int:=
 bif (I.bg z2 n1)then
  (gI a0 z2).bind fun x3=>
  (nz I M n x3 ba).bind fun y4=>
  bif y4 then
  some z2
  else
  self (I.wrap .i64 (I.add z2 1))
 else
  k z2
def mm(I:Pr)(M:Md)(n:Nat)(a0:List Int)(ba:List Bool):Option Int:=
 (some (au a0)).bind fun n1=>
 iter (kR I M n a0 ba n1 (fun z5=>
  some (-1))) n 0
def fx(I:Pr)(M:Md)(n:Nat)(a0:List Int)(ba:List Bool):Option Bool:=
 (mm I M n a0 ba).bind fun y1=>
 some (I.uT 0 y1)
def pw(I:Pr)(M:Md)(n:Nat)(a0:List aH)(n1:Int)(k:(List Bool)×Int→Option (List Bool))(self:(List Bool)×Int→Option (List Bool))(st:(List Bool)×Int):Option (List Bool):=
 match st with
 |(l2,z3)=>
 bif (I.bg z3 n1)then
  (gI a0 z3).bind fun x4=>
  (fN (I.aU x4.kind 5) false (fN (I.aU x4.kind 3) true (fx I M n x4.args l2) default) default).bind fun y5=>
  (aQ 1 l2 (I.pick (I.aU x4.kind 5) true (I.pick (I.aU x4.kind 3) y5 false))).bind fun l6=>
  self (l6,(I.wrap .i64 (I.add z3 1)))
 else
  k (l2,z3)
def xU(I:Pr)(M:Md)(n:Nat)(a0:List aH):Option (List Bool):=
 (some (au a0)).bind fun n1=>
 iter (pw I M n a0 n1 (fun(l7,z8)=>
  some l7)) n ([],0)
def qs(I:Pr)(M:Md)(n:Nat)(a0:Int)(a1:List Bool):Option Bool:=
 (gI a1 a0).bind fun x1=>
 some x1
def kQ(I:Pr)(M:Md)(n:Nat)(a0:List Int)(ba:List Bool)(n1:Int)(k:Int→Option Int)(self:Int→Option Int)(z2:Int):Option Int:=
 bif (I.bg z2 n1)then
  (gI a0 z2).bind fun x3=>
  (qs I M n x3 ba).bind fun y4=>
  bif y4 then
  some z2
  else
  self (I.wrap .i64 (I.add z2 1))
 else
  k z2
def ml(I:Pr)(M:Md)(n:Nat)(a0:List Int)(ba:List Bool):Option Int:=
 (some (au a0)).bind fun n1=>
 iter (kQ I M n a0 ba n1 (fun z5=>
  some (-1))) n 0
def fw(I:Pr)(M:Md)(n:Nat)(a0:List Int)(ba:List Bool):Option Bool:=
 (ml I M n a0 ba).bind fun y1=>
 some (I.uT 0 y1)
def Bf(I:Pr)(M:Md)(n:Nat)(a0:af)(a1:ai)(a2:ah)(a3:Int):Option Int:=
 (gI a2.ops a3).bind fun x1=>
 (H0 ([]:List (Int×Int)) 1 (I.wrap .i64 (I.sub a1.aG 1))).bind fun l2=>
 (H0 l2 2 (I.wrap .i64 (I.sub a2.aN 1))).bind fun l3=>
 (some (H3 l3 x1.kind 0)).bind fun x4=>
 bif (I.pick (I.bg x1.kind 1) true (I.bg 5 x1.kind))then
 some 3
 else
 (fN (I.pick (I.pick (I.aU x1.kind 1) true (I.aU x1.kind 2)) (I.not (I.seq x1.name (⟨#[]⟩:ByteArray))) false) false (fN (I.not (I.pick (I.aU x1.kind 1) true (I.aU x1.kind 2))) true (om I M n x1.name) default) default).bind fun y5=>
 bif (I.pick (I.pick (I.pick (I.aU x1.kind 1) true (I.aU x1.kind 2)) (I.not (I.seq x1.name (⟨#[]⟩:ByteArray))) false) true (I.pick (I.not (I.pick (I.aU x1.kind 1) true (I.aU x1.kind 2))) (I.not y5) false))then
  some 4
 else
  bif (I.pick (I.bg x1.num 0) true (I.bg x4 x1.num))then
  some 1
  else
  (some (au x1.args)).bind fun n6=>
  bif (I.pick (I.pick (I.pick (I.aU x1.kind 1) true (I.aU x1.kind 2)) (I.bg 0 n6) false) true (I.pick (I.aU x1.kind 3) (I.bg 4 n6) false))then
   some 2
  else
   (jJ I M n x1.args a3).bind fun y7=>
   (fN (I.not y7) false (fN (I.pick (I.aU x1.kind 4) true (I.aU x1.kind 5)) true (cV I M n x1.name (⟨a0.ab⟩:af)) default) default).bind fun y8=>
   bif (I.pick (I.not y7) true (I.pick (I.pick (I.aU x1.kind 4) true (I.aU x1.kind 5)) (I.bg y8 0) false))then
   some 1
   else
   bif (I.not (I.pick (I.aU x1.kind 4) true (I.aU x1.kind 5)))then
    some 0
   else
    (Gv a2.ops 0 a3).bind fun l9=>
    (xU I M n l9).bind fun yU=>
    (cV I M n x1.name (⟨a0.ab⟩:af)).bind fun uf=>
    (gI a0.ab uf).bind fun v3=>
    (fN (I.not (I.aU n6 v3.aG)) false (fw I M n x1.args yU) default).bind fun ue=>
    bif (I.pick (I.not (I.aU n6 v3.aG)) true ue)then
    some 7
    else
    some 0
def nD(I:Pr)(M:Md)(n:Nat)(a0:af)(OU:Int)(yp:ai)(pA:ah)(k:Int→Option Int)(self:Int→Option Int)(fM:Int):Option Int:=
 bif (I.bg fM OU)then
  (Bf I M n (⟨a0.ab⟩:af) yp pA fM).bind fun PW=>
  bif (I.not (I.aU PW 0))then
  some PW
  else
  self (I.wrap .i64 (I.add fM 1))
 else
  k fM
def nE(I:Pr)(M:Md)(n:Nat)(a0:af)(n15:Int)(yp:ai)(k:Int→Option Int)(self:Int→Option Int)(kr:Int):Option Int:=
 bif (I.bg kr n15)then
  (gI yp.ae kr).bind fun pA=>
  (some (au pA.ops)).bind fun OU=>
  iter (nD I M n a0 OU yp pA (fun z21=>
   (some (au pA.ops)).bind fun n22=>
   bif (I.pick (I.bg pA.result 0) true (I.uT n22 pA.result))then
   some 1
   else
   self (I.wrap .i64 (I.add kr 1)))) n 0
 else
  k kr
def nF(I:Pr)(M:Md)(n:Nat)(a0:af)(n12:Int)(k:Int→Option Int)(self:Int→Option Int)(lV:Int):Option Int:=
 bif (I.bg lV n12)then
  (gI a0.ab lV).bind fun yp=>
  (some (au yp.ae)).bind fun n15=>
  iter (nE I M n a0 n15 yp (fun z23=>
   self (I.wrap .i64 (I.add lV 1)))) n 0
 else
  k lV
def nG(I:Pr)(M:Md)(n:Nat)(a0:af)(n6:Int)(k:Int→Option Int)(self:Int→Option Int)(z7:Int):Option Int:=
 bif (I.bg z7 n6)then
  (gI a0.ab z7).bind fun x8=>
  (
  (cV I M n x8.name (⟨a0.ab⟩:af)).bind fun yU=>
  some (I.bg yU z7)).bind fun j9=>
  bif j9 then
  some 5
  else
  self (I.wrap .i64 (I.add z7 1))
 else
  k z7
def nH(I:Pr)(M:Md)(n:Nat)(a0:af)(n1:Int)(k:Int→Option Int)(self:Int→Option Int)(z2:Int):Option Int:=
 bif (I.bg z2 n1)then
  (gI a0.ab z2).bind fun x3=>
  (vl I M n x3).bind fun y4=>
  bif (I.not (I.aU y4 0))then
  some y4
  else
  self (I.wrap .i64 (I.add z2 1))
 else
  k z2
def dV(I:Pr)(M:Md)(n:Nat)(a0:af):Option Int:=
 (some (au a0.ab)).bind fun n1=>
 bif (I.pick (I.bg n1 1) true (I.bg 12 n1))then
 some 2
 else
 iter (nH I M n a0 n1 (fun z5=>
  (some (au a0.ab)).bind fun n6=>
  iter (nG I M n a0 n6 (fun Yw=>
   (some (au a0.ab)).bind fun n12=>
   iter (nF I M n a0 n12 (fun Tl=>
    some 0)) n 0)) n 0)) n 0
def ei(I:Pr)(M:Md)(n:Nat)(a0:aH):Option Bool:=
 some (I.pick (I.aU a0.kind 4) true (I.aU a0.kind 5))
def wv(I:Pr)(M:Md)(n:Nat)(a0:ah)(l2:List Bool)(n7:Int)(x5:aH)(k:(List Bool)×Int→Option (List Bool))(self:(List Bool)×Int→Option (List Bool))(st:(List Bool)×Int):Option (List Bool):=
 match st with
 |(l8,z9)=>
 bif (I.bg z9 n7)then
  (gI x5.args z9).bind fun Dz=>
  (L9 I M n (⟨a0.head,a0.aN,a0.ops,a0.result⟩:ah) (M.ln l2) n l8 Dz).bind fun zX=>
  self (zX,(I.wrap .i64 (I.add z9 1)))
 else
  k (l8,z9)
def wx(I:Pr)(M:Md)(n:Nat)(a0:ah)(l2:List Bool)(n1:Int)(k:(List Bool)×Int→Option (List Bool))(self:(List Bool)×Int→Option (List Bool))(st:(List Bool)×Int):Option (List Bool):=
 match st with
 |(l3,z4)=>
 bif (I.bg z4 n1)then
  (gI a0.ops z4).bind fun x5=>
  (ei I M n x5).bind fun y6=>
  bif y6 then
  (some (au x5.args)).bind fun n7=>
  iter (wv I M n a0 l2 n7 x5 (fun(gJ,lV)=>
   self (gJ,(I.wrap .i64 (I.add z4 1))))) n (l3,0)
  else
  self (l3,(I.wrap .i64 (I.add z4 1)))
 else
  k (l3,z4)
def As(I:Pr)(M:Md)(n:Nat)(a0:ah):Option (List Bool):=
 (some (au a0.ops)).bind fun n1=>
 (DI 1 n1 false).bind fun l2=>
 iter (wx I M n a0 l2 n1 (fun(WL,Bz)=>
  (eQ (M.ln l2) WL).bind fun u16=>
  some WL)) n (l2,0)
def dp(I:Pr)(M:Md)(n:Nat)(ou:List Int)(a1:List Int)(n1:Int)(k:Int×(List Int)→Option (List Int))(self:Int×(List Int)→Option (List Int))(st:Int×(List Int)):Option (List Int):=
 match st with
 |(z2,l3)=>
 bif (I.bg z2 n1)then
  (gI a1 z2).bind fun x4=>
  (gI ou x4).bind fun x5=>
  (aQ 8 l3 x5).bind fun l6=>
  self ((I.wrap .i64 (I.add z2 1)),l6)
 else
  k (z2,l3)
def bD(I:Pr)(M:Md)(n:Nat)(zQ:ByteArray)(zP:Int)(GM:List aH)(zO:Int)(ou:List Int)(a1:List Int):Option (List Int):=
 (some (au a1)).bind fun n1=>
 iter (dp I M n ou a1 n1 (fun(z7,l8)=>
  some l8)) n (0,[])
def vz(I:Pr)(M:Md)(n:Nat)(n31:Int)(eR:ah)(KM:List Bool)(k:(List aH)×(List Int)×Int→Option (af×Int))(self:(List aH)×(List Int)×Int→Option (af×Int))(st:(List aH)×(List Int)×Int):Option (af×Int):=
 match st with
 |(zV,vX,vV)=>
 bif (I.bg vV n31)then
  (gI eR.ops vV).bind fun rz=>
  (
  (fN (I.aU rz.kind 4) true (gI KM vV) default).bind fun x38=>
  bif (I.pick (I.aU rz.kind 4) (I.not x38) false)then
   (
   (bD I M n eR.head eR.aN zV 0 vX rz.args).bind fun Tn=>
   (some (au Tn)).bind fun n42=>
   (DI 8 n42 0).bind fun Nc=>
   (some (nI (M.ln Nc) Tn Nc)).bind fun Eo=>
   (some (px (M.ln Nc) Tn)).bind fun Tp=>
   bif (I.aU n42 0)then
    (aQ 56 zV (⟨5,rz.name,rz.num,[]⟩:aH)).bind fun l46=>
    (some (au l46)).bind fun n47=>
    some ((I.wrap .i64 (I.sub n47 1)),l46)
   else
    (eQ (M.ln Nc) Eo).bind fun u48=>
    (aQ 56 zV (⟨5,rz.name,rz.num,Eo⟩:aH)).bind fun Ss=>
    (some (au Ss)).bind fun n50=>
    some ((I.wrap .i64 (I.sub n50 1)),Ss)).bind fun(DK,j40)=>
   (aQ 8 vX DK).bind fun l51=>
   some (j40,l51)
  else
   (
   (bD I M n eR.head eR.aN zV 0 vX rz.args).bind fun Yy=>
   (some (au Yy)).bind fun n55=>
   (DI 8 n55 0).bind fun Sq=>
   (some (nI (M.ln Sq) Yy Sq)).bind fun WJ=>
   (some (px (M.ln Sq) Yy)).bind fun Wj=>
   bif (I.aU n55 0)then
    (aQ 56 zV (⟨rz.kind,rz.name,rz.num,[]⟩:aH)).bind fun Qu=>
    (some (au Qu)).bind fun n60=>
    some ((I.wrap .i64 (I.sub n60 1)),Qu)
   else
    (eQ (M.ln Sq) WJ).bind fun u61=>
    (aQ 56 zV (⟨rz.kind,rz.name,rz.num,WJ⟩:aH)).bind fun O4=>
    (some (au O4)).bind fun OS=>
    some ((I.wrap .i64 (I.sub OS 1)),O4)).bind fun(j52,j53)=>
   (aQ 8 vX j52).bind fun Sp=>
   some (j53,Sp)).bind fun(SB,Hh)=>
  self (SB,Hh,(I.wrap .i64 (I.add vV 1)))
 else
  k (zV,vX,vV)
def vA(I:Pr)(M:Md)(n:Nat)(a0:af)(l9:List ai)(CW:Int)(vw:ai)(fc:Int)(k:(List Bool)×(List ai)×Int→Option (af×Int))(self:(List Bool)×(List ai)×Int→Option (af×Int))(st:(List Bool)×(List ai)×Int):Option (af×Int):=
 match st with
 |(zu,uL,fM)=>
 bif (I.bg fM CW)then
  (gI vw.ae fM).bind fun eR=>
  (some (List.replicate 2 (0:Int))).bind fun vE=>
  (lx 2 vE).bind fun Zg=>
  (lx 2 ([fc,fM])).bind fun T5=>
  (gN 2 0).bind fun k24=>
  (gK ([fc,fM]) k24).bind fun z0=>
  (gI a0.ab z0).bind fun x26=>
  (gN 2 1).bind fun k27=>
  (gK ([fc,fM]) k27).bind fun x28=>
  (gI x26.ae x28).bind fun sx=>
  (As I M n sx).bind fun KM=>
  (some (au eR.ops)).bind fun n31=>
  iter (vz I M n n31 eR KM (fun(l65,YN,z67)=>
   (gI YN eR.result).bind fun x68=>
   (gN 2 0).bind fun k69=>
   (gK ([fc,fM]) k69).bind fun x70=>
   (gN (M.ln l9) x70).bind fun k71=>
   (gK uL k71).bind fun x72=>
   (aQ 56 x72.ae (⟨eR.head,eR.aN,l65,x68⟩:ah)).bind fun WH=>
   (nO uL k71 (⟨x72.name,x72.aG,WH⟩:ai)).bind fun l74=>
   self (KM,l74,(I.wrap .i64 (I.add fM 1))))) n ([],[],0)
 else
  k (zu,uL,fM)
def vB(I:Pr)(M:Md)(n:Nat)(a0:af)(l9:List ai)(yG:Int)(k:(List Bool)×(List ai)×Int→Option (af×Int))(self:(List Bool)×(List ai)×Int→Option (af×Int))(st:(List Bool)×(List ai)×Int):Option (af×Int):=
 match st with
 |(gJ,zW,fc)=>
 bif (I.bg fc yG)then
  (gI a0.ab fc).bind fun vw=>
  (some (au vw.ae)).bind fun CW=>
  iter (vA I M n a0 l9 CW vw fc (fun(l75,l76,z77)=>
   self (l75,l76,(I.wrap .i64 (I.add fc 1))))) n (gJ,zW,0)
 else
  k (gJ,zW,fc)
def vC(I:Pr)(M:Md)(n:Nat)(a0:af)(n2:Int)(k:(List ai)×Int→Option (af×Int))(self:(List ai)×Int→Option (af×Int))(st:(List ai)×Int):Option (af×Int):=
 match st with
 |(l5,z6)=>
 bif (I.bg z6 n2)then
  (gI a0.ab z6).bind fun x7=>
  (aQ 48 l5 (⟨x7.name,x7.aG,[]⟩:ai)).bind fun l8=>
  self (l8,(I.wrap .i64 (I.add z6 1)))
 else
  k (l5,z6)
def sC(I:Pr)(M:Md)(n:Nat)(a0:af):Option (af×Int):=
 (dV I M n a0).bind fun y1=>
 bif (I.not (I.aU y1 0))then
 some ((⟨[]⟩:af),y1)
 else
 (some (au a0.ab)).bind fun n2=>
 bif (I.bg 0 n2)then
  (gI a0.ab 0).bind fun x3=>
  (aQ 48 [] (⟨x3.name,x3.aG,[]⟩:ai)).bind fun l4=>
  iter (vC I M n a0 n2 (fun(l9,xV)=>
   (some (au a0.ab)).bind fun yG=>
   iter (vB I M n a0 l9 yG (fun(O2,l79,z80)=>
    (eQ (M.ln l9) l79).bind fun u81=>
    some ((⟨l79⟩:af),0))) n ([],l9,0))) n (l4,(I.wrap .i64 (I.add 0 1)))
 else
  none
def r4(I:Pr)(M:Md)(n:Nat)(a0:ai)(a1:ByteArray):Option Bool:=
 some (I.seq a0.name a1)
def jD(I:Pr)(M:Md)(n:Nat)(a0:List ai)(ba:ByteArray)(n1:Int)(k:Int→Option Int)(self:Int→Option Int)(z2:Int):Option Int:=
 bif (I.bg z2 n1)then
  (gI a0 z2).bind fun x3=>
  (r4 I M n x3 ba).bind fun y4=>
  bif y4 then
  some z2
  else
  self (I.wrap .i64 (I.add z2 1))
 else
  k z2
def kT(I:Pr)(M:Md)(n:Nat)(a0:List ai)(ba:ByteArray):Option Int:=
 (some (au a0)).bind fun n1=>
 iter (jD I M n a0 ba n1 (fun z5=>
  some (-1))) n 0
def uE(I:Pr)(M:Md)(n:Nat)(a0:af)(a1:ByteArray):Option ai:=
 (kT I M n a0.ab a1).bind fun y1=>
 (gI a0.ab y1).bind fun x2=>
 some x2
def wy(I:Pr)(M:Md)(n:Nat)(a0:aH):Option Bool:=
 (ei I M n a0).bind fun y1=>
 some (I.not y1)
def oN(I:Pr)(M:Md)(n:Nat)(a0:aH):Option Bool:=
 (wy I M n a0).bind fun y1=>
 some (I.not y1)
def lC(I:Pr)(M:Md)(n:Nat)(a0:List aH)(n1:Int)(k:Int→Option Int)(self:Int→Option Int)(z2:Int):Option Int:=
 bif (I.bg z2 n1)then
  (gI a0 z2).bind fun x3=>
  (oN I M n x3).bind fun y4=>
  bif y4 then
  some z2
  else
  self (I.wrap .i64 (I.add z2 1))
 else
  k z2
def mR(I:Pr)(M:Md)(n:Nat)(a0:List aH):Option Int:=
 (some (au a0)).bind fun n1=>
 iter (lC I M n a0 n1 (fun z5=>
  some (-1))) n 0
def kW(I:Pr)(M:Md)(n:Nat)(a0:List aH):Option Bool:=
 (mR I M n a0).bind fun y1=>
 some (I.uT 0 y1)
def qN(I:Pr)(M:Md)(n:Nat)(a0:List aH):Option Bool:=
 (kW I M n a0).bind fun y1=>
 some (I.not y1)
def uD(I:Pr)(M:Md)(n:Nat)(a0:ah):Option Bool:=
 (qN I M n a0.ops).bind fun y1=>
 some y1
def rZ(I:Pr)(M:Md)(n:Nat)(a0:ai):Option Bool:=
 (some (au a0.ae)).bind fun n1=>
 (fN (I.aU n1 1) true (gI a0.ae 0) default).bind fun x2=>
 (fN (I.pick (I.aU n1 1) (I.seq x2.head (⟨#[]⟩:ByteArray)) false) true (gI a0.ae 0) default).bind fun x3=>
 (fN (I.pick (I.aU n1 1) (I.seq x2.head (⟨#[]⟩:ByteArray)) false) true (uD I M n (⟨x3.head,x3.aN,x3.ops,x3.result⟩:ah)) default).bind fun y4=>
 some (I.pick (I.pick (I.aU n1 1) (I.seq x2.head (⟨#[]⟩:ByteArray)) false) y4 false)
def wz(I:Pr)(M:Md)(n:Nat)(a0:List Int)(n1:Int)(k:Int×Int→Option Int)(self:Int×Int→Option Int)(st:Int×Int):Option Int:=
 match st with
 |(z2,z3)=>
 bif (I.bg z3 n1)then
  (gI a0 z3).bind fun x4=>
  self ((I.wrap .i64 (I.add z2 x4)),(I.wrap .i64 (I.add z3 1)))
 else
  k (z2,z3)
def na(I:Pr)(M:Md)(n:Nat)(a0:List Int):Option Int:=
 (some (au a0)).bind fun n1=>
 iter (wz I M n a0 n1 (fun(z5,z6)=>
  some z5)) n (0,0)
def mZ(I:Pr)(M:Md)(n:Nat)(ou:List Int)(a1:List Int)(n1:Int)(k:Int×(List Int)→Option (List Int))(self:Int×(List Int)→Option (List Int))(st:Int×(List Int)):Option (List Int):=
 match st with
 |(z2,l3)=>
 bif (I.bg z2 n1)then
  (gI a1 z2).bind fun x4=>
  (gI ou x4).bind fun x5=>
  (aQ 8 l3 x5).bind fun l6=>
  self ((I.wrap .i64 (I.add z2 1)),l6)
 else
  k (z2,l3)
def j8(I:Pr)(M:Md)(n:Nat)(zQ:ByteArray)(zP:Int)(zO:Int)(ou:List Int)(a1:List Int):Option (List Int):=
 (some (au a1)).bind fun n1=>
 iter (mZ I M n ou a1 n1 (fun(z7,l8)=>
  some l8)) n (0,[])
def mY(I:Pr)(M:Md)(n:Nat)(ou:List Int)(a1:List Int)(n1:Int)(k:Int×(List Int)→Option (List Int))(self:Int×(List Int)→Option (List Int))(st:Int×(List Int)):Option (List Int):=
 match st with
 |(z2,l3)=>
 bif (I.bg z2 n1)then
  (gI a1 z2).bind fun x4=>
  (gI ou x4).bind fun x5=>
  (aQ 8 l3 x5).bind fun l6=>
  self ((I.wrap .i64 (I.add z2 1)),l6)
 else
  k (z2,l3)
def oM(I:Pr)(M:Md)(n:Nat)(zQ:ByteArray)(zP:Int)(GM:List aH)(zO:Int)(ou:List Int)(zN:af)(a1:List Int):Option (List Int):=
 (some (au a1)).bind fun n1=>
 iter (mY I M n ou a1 n1 (fun(z7,l8)=>
  some l8)) n (0,[])
def ll(I:Pr)(M:Md)(n:Nat)(uR:List aH)(n69:Int)(xW:List Int)(k:(List aH)×(List Int)×Int→Option ((List aH)×(List Int)))(self:(List aH)×(List Int)×Int→Option ((List aH)×(List Int)))(st:(List aH)×(List Int)×Int):Option ((List aH)×(List Int)):=
 match st with
 |(O3,Nb,PU)=>
 bif (I.bg PU n69)then
  (gI uR PU).bind fun Dy=>
  bif (I.aU Dy.kind 1)then
  (gI xW Dy.num).bind fun x74=>
  (aQ 8 Nb x74).bind fun l75=>
  self (O3,l75,(I.wrap .i64 (I.add PU 1)))
  else
  bif (I.aU Dy.kind 2)then
   (gI xW 0).bind fun x76=>
   (gI O3 x76).bind fun x77=>
   (gI x77.args Dy.num).bind fun x78=>
   (aQ 8 Nb x78).bind fun l79=>
   self (O3,l79,(I.wrap .i64 (I.add PU 1)))
  else
   (
   (j8 I M n ⟨#[]⟩ 0 0 Nb Dy.args).bind fun y82=>
   (some (au y82)).bind fun YJ=>
   (DI 8 YJ 0).bind fun En=>
   (some (nI (M.ln En) y82 En)).bind fun GW=>
   (some (px (M.ln En) y82)).bind fun n86=>
   bif (I.aU YJ 0)then
    (aQ 56 O3 (⟨Dy.kind,Dy.name,Dy.num,[]⟩:aH)).bind fun l87=>
    (some (au l87)).bind fun n88=>
    some ((I.wrap .i64 (I.sub n88 1)),l87)
   else
    (eQ (M.ln En) GW).bind fun u89=>
    (aQ 56 O3 (⟨Dy.kind,Dy.name,Dy.num,GW⟩:aH)).bind fun l90=>
    (some (au l90)).bind fun n91=>
    some ((I.wrap .i64 (I.sub n91 1)),l90)).bind fun(j80,j81)=>
   (aQ 8 Nb j80).bind fun l92=>
   self (j81,l92,(I.wrap .i64 (I.add PU 1)))
 else
  k (O3,Nb,PU)
def lq(I:Pr)(M:Md)(n:Nat)(uR:List aH)(n50:Int)(k:Int×Int→Option ((List aH)×(List Int)))(self:Int×Int→Option ((List aH)×(List Int)))(st:Int×Int):Option ((List aH)×(List Int)):=
 match st with
 |(Rj,Tk)=>
 bif (I.bg Tk n50)then
  (gI uR Tk).bind fun x53=>
  bif (I.aU x53.kind 3)then
  self ((I.wrap .i64 (I.add Rj 1)),(I.wrap .i64 (I.add Tk 1)))
  else
  self (Rj,(I.wrap .i64 (I.add Tk 1)))
 else
  k (Rj,Tk)
def lj(I:Pr)(M:Md)(n:Nat)(k:Unit→Option ((List aH)×(List Int)))(self:Unit→Option ((List aH)×(List Int)))(st:Unit):Option ((List aH)×(List Int)):=
 match st with
 |()=>
 k ()
def lk(I:Pr)(M:Md)(n:Nat)(k:Unit→Option ((List aH)×(List Int)))(self:Unit→Option ((List aH)×(List Int)))(st:Unit):Option ((List aH)×(List Int)):=
 match st with
 |()=>
 k ()
def pZ(I:Pr)(M:Md)(n:Nat)(a0:af)(ba:af)(n26:Int)(eR:ah)(fc:Int)(fM:Int)(k:(List aH)×(List Int)×Int→Option af)(self:(List aH)×(List Int)×Int→Option af)(st:(List aH)×(List Int)×Int):Option af:=
 match st with
 |(nV,ud,rv)=>
 bif (I.bg rv n26)then
  (gI eR.ops rv).bind fun fO=>
  (
  (oM I M n eR.head eR.aN nV 0 ud (⟨ba.ab⟩:af) fO.args).bind fun xW=>
  (ei I M n fO).bind fun y34=>
  bif y34 then
   (
   (uE I M n (⟨ba.ab⟩:af) fO.name).bind fun Dw=>
   (gI Dw.ae 0).bind fun YC=>
   (rZ I M n Dw).bind fun y42=>
   some (y42,YC.head,YC.aN,YC.ops,YC.result)).bind fun(Mr,SB,Hh,uR,DK)=>
   (gN 2 0).bind fun k43=>
   (gK ([fc,fM]) k43).bind fun KO=>
   (gI a0.ab KO).bind fun x45=>
   (gN 2 1).bind fun k46=>
   (gK ([fc,fM]) k46).bind fun Rp=>
   (gI x45.ae Rp).bind fun x48=>
   (some (au x48.ops)).bind fun Wk=>
   (some (au uR)).bind fun n50=>
   iter (lq I M n uR n50 (fun(z54,z55)=>
    (some (au nV)).bind fun n56=>
    (fN (I.not Mr) false (na I M n ([n56,z54,(I.wrap .i64 (I.sub (I.wrap .i64 (I.sub Wk rv)) 1))])) default).bind fun y57=>
    bif (I.pick (I.not Mr) true (I.bg 60 y57))then
    (some (au xW)).bind fun Wj=>
    (DI 8 Wj 0).bind fun Qu=>
    (some (nI (M.ln Qu) xW Qu)).bind fun H5=>
    (some (px (M.ln Qu) xW)).bind fun n61=>
    bif (I.aU Wj 0)then
     (aQ 56 nV (⟨fO.kind,fO.name,fO.num,[]⟩:aH)).bind fun O4=>
     (some (au O4)).bind fun OS=>
     (aQ 8 ud (I.wrap .i64 (I.sub OS 1))).bind fun Sp=>
     some (O4,Sp)
    else
     (eQ (M.ln Qu) H5).bind fun u65=>
     (aQ 56 nV (⟨fO.kind,fO.name,fO.num,H5⟩:aH)).bind fun YN=>
     (some (au YN)).bind fun n67=>
     (aQ 8 ud (I.wrap .i64 (I.sub n67 1))).bind fun YM=>
     some (YN,YM)
    else
    (some (au uR)).bind fun n69=>
    iter (ll I M n uR n69 xW (fun(l93,l94,z95)=>
     (gI l94 DK).bind fun x96=>
     (aQ 8 ud x96).bind fun l97=>
     some (l93,l97))) n (nV,[],0))) n (0,0)
  else
   (gN 2 0).bind fun k98=>
   (gK ([fc,fM]) k98).bind fun x99=>
   (gI a0.ab x99).bind fun aeE=>
   (gN 2 1).bind fun ah6=>
   (gK ([fc,fM]) ah6).bind fun aeD=>
   (gI aeE.ae aeD).bind fun aeC=>
   (some (au aeC.ops)).bind fun Wr=>
   iter (lk I M n (fun _=>
    (some (au nV)).bind fun JZ=>
    (fN (I.not false) false (na I M n ([JZ,0,(I.wrap .i64 (I.sub (I.wrap .i64 (I.sub Wr rv)) 1))])) default).bind fun aet=>
    bif (I.pick (I.not false) true (I.bg 60 aet))then
    (some (au xW)).bind fun aaI=>
    (DI 8 aaI 0).bind fun Mo=>
    (some (nI (M.ln Mo) xW Mo)).bind fun SA=>
    (some (px (M.ln Mo) xW)).bind fun amY=>
    bif (I.aU aaI 0)then
     (aQ 56 nV (⟨fO.kind,fO.name,fO.num,[]⟩:aH)).bind fun Mn=>
     (some (au Mn)).bind fun Wq=>
     (aQ 8 ud (I.wrap .i64 (I.sub Wq 1))).bind fun ahW=>
     some (Mn,ahW)
    else
     (eQ (M.ln Mo) SA).bind fun alx=>
     (aQ 56 nV (⟨fO.kind,fO.name,fO.num,SA⟩:aH)).bind fun aa4=>
     (some (au aa4)).bind fun Wp=>
     (aQ 8 ud (I.wrap .i64 (I.sub Wp 1))).bind fun ahV=>
     some (aa4,ahV)
    else
    iter (lj I M n (fun _=>
     none)) n ())) n ()).bind fun(WU,j32)=>
  self (WU,j32,(I.wrap .i64 (I.add rv 1)))
 else
  k (nV,ud,rv)
def p3(I:Pr)(M:Md)(n:Nat)(a0:af)(ba:af)(l9:List ai)(CW:Int)(vw:ai)(fc:Int)(k:(List Int)×(List ai)×Int→Option af)(self:(List Int)×(List ai)×Int→Option af)(st:(List Int)×(List ai)×Int):Option af:=
 match st with
 |(zu,uL,fM)=>
 bif (I.bg fM CW)then
  (gI vw.ae fM).bind fun eR=>
  (some (List.replicate 2 (0:Int))).bind fun vE=>
  (lx 2 vE).bind fun Zg=>
  (lx 2 ([fc,fM])).bind fun T5=>
  (lx 2 ([fc,fM])).bind fun u24=>
  (lx 2 zu).bind fun u25=>
  (some (au eR.ops)).bind fun n26=>
  iter (pZ I M n a0 ba n26 eR fc fM (fun(as0,asZ,z120)=>
   (gI asZ eR.result).bind fun aex=>
   (gN 2 0).bind fun ank=>
   (gK ([fc,fM]) ank).bind fun alq=>
   (gN (M.ln l9) alq).bind fun ah2=>
   (gK uL ah2).bind fun Ze=>
   (aQ 56 Ze.ae (⟨eR.head,eR.aN,as0,aex⟩:ah)).bind fun ane=>
   (nO uL ah2 (⟨Ze.name,Ze.aG,ane⟩:ai)).bind fun Sx=>
   self ([fc,fM],Sx,(I.wrap .i64 (I.add fM 1))))) n ([],[],0)
 else
  k (zu,uL,fM)
def p4(I:Pr)(M:Md)(n:Nat)(a0:af)(ba:af)(l9:List ai)(yG:Int)(k:(List Int)×(List ai)×Int→Option af)(self:(List Int)×(List ai)×Int→Option af)(st:(List Int)×(List ai)×Int):Option af:=
 match st with
 |(gJ,zW,fc)=>
 bif (I.bg fc yG)then
  (gI a0.ab fc).bind fun vw=>
  (some (au vw.ae)).bind fun CW=>
  iter (p3 I M n a0 ba l9 CW vw fc (fun(asY,Sw,z130)=>
   self (asY,Sw,(I.wrap .i64 (I.add fc 1))))) n (gJ,zW,0)
 else
  k (gJ,zW,fc)
def p5(I:Pr)(M:Md)(n:Nat)(a0:af)(n2:Int)(k:(List ai)×Int→Option af)(self:(List ai)×Int→Option af)(st:(List ai)×Int):Option af:=
 match st with
 |(l5,z6)=>
 bif (I.bg z6 n2)then
  (gI a0.ab z6).bind fun x7=>
  (aQ 48 l5 (⟨x7.name,x7.aG,[]⟩:ai)).bind fun l8=>
  self (l8,(I.wrap .i64 (I.add z6 1)))
 else
  k (l5,z6)
def rY(I:Pr)(M:Md)(n:Nat)(a0:af)(ba:af):Option af:=
 (some (List.replicate 2 (0:Int))).bind fun l1=>
 (some (au a0.ab)).bind fun n2=>
 bif (I.bg 0 n2)then
 (gI a0.ab 0).bind fun x3=>
 (aQ 48 [] (⟨x3.name,x3.aG,[]⟩:ai)).bind fun l4=>
 iter (p5 I M n a0 n2 (fun(l9,xV)=>
  (some (au a0.ab)).bind fun yG=>
  iter (p4 I M n a0 ba l9 yG (fun(aa2,aa1,z133)=>
   (eQ (M.ln l9) aa1).bind fun ard=>
   some (⟨aa1⟩:af))) n (l1,l9,0))) n (l4,(I.wrap .i64 (I.add 0 1)))
 else
 none
def sD(I:Pr)(M:Md)(n:Nat)(a0:af):Option (af×Int):=
 (dV I M n a0).bind fun y1=>
 bif (I.not (I.aU y1 0))then
 some ((⟨[]⟩:af),y1)
 else
 (rY I M n (⟨a0.ab⟩:af) (⟨a0.ab⟩:af)).bind fun y2=>
 some (y2,0)
def fh(I:Pr)(M:Md)(n:Nat)(n21:Int)(pA:ah)(k:(List aH)×(List Int)×Int→Option af)(self:(List aH)×(List Int)×Int→Option af)(st:(List aH)×(List Int)×Int):Option af:=
 match st with
 |(Nd,vY,Tl)=>
 bif (I.bg Tl n21)then
  (gI pA.ops Tl).bind fun z0=>
  (
  (
   (bD I M n pA.head pA.aN Nd 0 vY z0.args).bind fun KM=>
   (some (au KM)).bind fun n31=>
   (DI 8 n31 0).bind fun zV=>
   (some (nI (M.ln zV) KM zV)).bind fun vX=>
   (some (px (M.ln zV) KM)).bind fun n34=>
   bif (I.aU n31 0)then
   (aQ 56 Nd (⟨z0.kind,z0.name,z0.num,[]⟩:aH)).bind fun WK=>
   (some (au WK)).bind fun n36=>
   some ((I.wrap .i64 (I.sub n36 1)),WK)
   else
   (eQ (M.ln zV) vX).bind fun u37=>
   (aQ 56 Nd (⟨z0.kind,z0.name,z0.num,vX⟩:aH)).bind fun l38=>
   (some (au l38)).bind fun n39=>
   some ((I.wrap .i64 (I.sub n39 1)),l38)).bind fun(j28,j29)=>
  (aQ 8 vY j28).bind fun l40=>
  some (j29,l40)).bind fun(j26,j27)=>
  self (j26,j27,(I.wrap .i64 (I.add Tl 1)))
 else
  k (Nd,vY,Tl)
def fk(I:Pr)(M:Md)(n:Nat)(l8:List ai)(DG:Int)(GU:ai)(yT:Int)(k:(List ai)×Int→Option af)(self:(List ai)×Int→Option af)(st:(List ai)×Int):Option af:=
 match st with
 |(vN,kr)=>
 bif (I.bg kr DG)then
  (gI GU.ae kr).bind fun pA=>
  (some (List.replicate 2 (0:Int))).bind fun uL=>
  (lx 2 uL).bind fun u19=>
  (lx 2 ([yT,kr])).bind fun u20=>
  (some (au pA.ops)).bind fun n21=>
  iter (fh I M n n21 pA (fun(Tt,H7,z43)=>
   (gI H7 pA.result).bind fun KO=>
   (gN 2 0).bind fun k45=>
   (gK ([yT,kr]) k45).bind fun x46=>
   (gN (M.ln l8) x46).bind fun k47=>
   (gK vN k47).bind fun x48=>
   (aQ 56 x48.ae (⟨pA.head,pA.aN,Tt,KO⟩:ah)).bind fun Ss=>
   (nO vN k47 (⟨x48.name,x48.aG,Ss⟩:ai)).bind fun YP=>
   self (YP,(I.wrap .i64 (I.add kr 1))))) n ([],[],0)
 else
  k (vN,kr)
def dR(I:Pr)(M:Md)(n:Nat)(a0:af)(l8:List ai)(BW:Int)(k:(List ai)×Int→Option af)(self:(List ai)×Int→Option af)(st:(List ai)×Int):Option af:=
 match st with
 |(zX,yT)=>
 bif (I.bg yT BW)then
  (gI a0.ab yT).bind fun GU=>
  (some (au GU.ae)).bind fun DG=>
  iter (fk I M n l8 DG GU yT (fun(l51,Tk)=>
   self (l51,(I.wrap .i64 (I.add yT 1))))) n (zX,0)
 else
  k (zX,yT)
def fm(I:Pr)(M:Md)(n:Nat)(a0:af)(n1:Int)(k:(List ai)×Int→Option af)(self:(List ai)×Int→Option af)(st:(List ai)×Int):Option af:=
 match st with
 |(l4,z5)=>
 bif (I.bg z5 n1)then
  (gI a0.ab z5).bind fun x6=>
  (aQ 48 l4 (⟨x6.name,x6.aG,[]⟩:ai)).bind fun l7=>
  self (l7,(I.wrap .i64 (I.add z5 1)))
 else
  k (l4,z5)
def qM(I:Pr)(M:Md)(n:Nat)(a0:af):Option af:=
 (some (au a0.ab)).bind fun n1=>
 bif (I.bg 0 n1)then
 (gI a0.ab 0).bind fun x2=>
 (aQ 48 [] (⟨x2.name,x2.aG,[]⟩:ai)).bind fun l3=>
 iter (fm I M n a0 n1 (fun(l8,z9)=>
  (some (au a0.ab)).bind fun BW=>
  iter (dR I M n a0 l8 BW (fun(Sr,z54)=>
   (eQ (M.ln l8) Sr).bind fun u55=>
   some (⟨Sr⟩:af))) n (l8,0))) n (l3,(I.wrap .i64 (I.add 0 1)))
 else
 none
def oe(I:Pr)(M:Md)(n:Nat)(a0:af):Option af:=
 (qM I M n a0).bind fun y1=>
 some y1
def qa(I:Pr)(M:Md)(n:Nat)(a1:af):Option af:=
 (sC I M n a1).bind fun y1=>
 some y1.1
def p9(I:Pr)(M:Md)(n:Nat)(a1:af):Option af:=
 (sD I M n a1).bind fun y1=>
 some y1.1
def mv(I:Pr)(M:Md)(n:Nat)(ou:List Int)(a1:List Int)(n1:Int)(k:Int×(List Int)→Option (List Int))(self:Int×(List Int)→Option (List Int))(st:Int×(List Int)):Option (List Int):=
 match st with
 |(z2,l3)=>
 bif (I.bg z2 n1)then
  (gI a1 z2).bind fun x4=>
  (gI ou x4).bind fun x5=>
  (aQ 8 l3 x5).bind fun l6=>
  self ((I.wrap .i64 (I.add z2 1)),l6)
 else
  k (z2,l3)
def nU(I:Pr)(M:Md)(n:Nat)(zQ:ByteArray)(zP:Int)(GM:List aH)(zO:Int)(ou:List Int)(zN:af)(a1:List Int):Option (List Int):=
 (some (au a1)).bind fun n1=>
 iter (mv I M n ou a1 n1 (fun(z7,l8)=>
  some l8)) n (0,[])
def lh(I:Pr)(M:Md)(n:Nat)(Tp:Int)(KO:aH)(Dw:ai)(k:Int×Bool×ByteArray×Int×(List aH)×Int→Option (Bool×ByteArray×Int×(List aH)×Int))(k2:Int→Option (Bool×ByteArray×Int×(List aH)×Int))(self:Int→Option (Bool×ByteArray×Int×(List aH)×Int))(Rk:Int):Option (Bool×ByteArray×Int×(List aH)×Int):=
 bif (I.bg Rk Tp)then
  (gI Dw.ae Rk).bind fun Rp=>
  (some (au KO.args)).bind fun Na=>
  bif (I.pick (I.pick (I.aU KO.kind 3) (I.seq Rp.head KO.name) false) (I.aU Rp.aN Na) false)then
  (uD I M n Rp).bind fun y49=>
  k (Rk,y49,Rp.head,Rp.aN,Rp.ops,Rp.result)
  else
  self (I.wrap .i64 (I.add Rk 1))
 else
  k2 Rk
def lf(I:Pr)(M:Md)(n:Nat)(uR:List aH)(YJ:Int)(xW:List Int)(k:(List aH)×(List Int)×Int→Option ((List aH)×(List Int)))(self:(List aH)×(List Int)×Int→Option ((List aH)×(List Int)))(st:(List aH)×(List Int)×Int):Option ((List aH)×(List Int)):=
 match st with
 |(En,GW,Nn)=>
 bif (I.bg Nn YJ)then
  (gI uR Nn).bind fun Dx=>
  bif (I.aU Dx.kind 1)then
  (gI xW Dx.num).bind fun x88=>
  (aQ 8 GW x88).bind fun l89=>
  self (En,l89,(I.wrap .i64 (I.add Nn 1)))
  else
  bif (I.aU Dx.kind 2)then
   (gI xW 0).bind fun x90=>
   (gI En x90).bind fun x91=>
   (gI x91.args Dx.num).bind fun x92=>
   (aQ 8 GW x92).bind fun l93=>
   self (En,l93,(I.wrap .i64 (I.add Nn 1)))
  else
   (
   (j8 I M n ⟨#[]⟩ 0 0 GW Dx.args).bind fun y96=>
   (some (au y96)).bind fun n97=>
   (DI 8 n97 0).bind fun l98=>
   (some (nI (M.ln l98) y96 l98)).bind fun l99=>
   (some (px (M.ln l98) y96)).bind fun amZ=>
   bif (I.aU n97 0)then
    (aQ 56 En (⟨Dx.kind,Dx.name,Dx.num,[]⟩:aH)).bind fun aa6=>
    (some (au aa6)).bind fun ahO=>
    some ((I.wrap .i64 (I.sub ahO 1)),aa6)
   else
    (eQ (M.ln l98) l99).bind fun aly=>
    (aQ 56 En (⟨Dx.kind,Dx.name,Dx.num,l99⟩:aH)).bind fun aa5=>
    (some (au aa5)).bind fun JZ=>
    some ((I.wrap .i64 (I.sub JZ 1)),aa5)).bind fun(j94,j95)=>
   (aQ 8 GW j94).bind fun ahX=>
   self (j95,ahX,(I.wrap .i64 (I.add Nn 1)))
 else
  k (En,GW,Nn)
def lg(I:Pr)(M:Md)(n:Nat)(uR:List aH)(n64:Int)(k:Int×Int→Option ((List aH)×(List Int)))(self:Int×Int→Option ((List aH)×(List Int)))(st:Int×Int):Option ((List aH)×(List Int)):=
 match st with
 |(Tj,Ti)=>
 bif (I.bg Ti n64)then
  (gI uR Ti).bind fun x67=>
  bif (I.aU x67.kind 3)then
  self ((I.wrap .i64 (I.add Tj 1)),(I.wrap .i64 (I.add Ti 1)))
  else
  self (Tj,(I.wrap .i64 (I.add Ti 1)))
 else
  k (Tj,Ti)
def ka(I:Pr)(M:Md)(n:Nat)(k:Unit→Option ((List aH)×(List Int)))(self:Unit→Option ((List aH)×(List Int)))(st:Unit):Option ((List aH)×(List Int)):=
 match st with
 |()=>
 k ()
def ld(I:Pr)(M:Md)(n:Nat)(k:Unit→Option ((List aH)×(List Int)))(self:Unit→Option ((List aH)×(List Int)))(st:Unit):Option ((List aH)×(List Int)):=
 match st with
 |()=>
 k ()
def pV(I:Pr)(M:Md)(n:Nat)(a0:af)(ba:af)(n26:Int)(eR:ah)(fc:Int)(fM:Int)(k:(List aH)×(List Int)×Int→Option af)(self:(List aH)×(List Int)×Int→Option af)(st:(List aH)×(List Int)×Int):Option af:=
 match st with
 |(nV,ud,rv)=>
 bif (I.bg rv n26)then
  (gI eR.ops rv).bind fun fO=>
  (
  (nU I M n eR.head eR.aN nV 0 ud ba fO.args).bind fun xW=>
  (ei I M n fO).bind fun y34=>
  bif y34 then
   (
   (uE I M n ba fO.name).bind fun Dw=>
   (gI Dw.ae 0).bind fun YC=>
   bif (I.seq YC.head (⟨#[]⟩:ByteArray))then
    some (false,⟨#[]⟩,0,[],0)
   else
    (gI fO.args 0).bind fun x42=>
    (gI ud x42).bind fun x43=>
    (gI nV x43).bind fun KO=>
    (some (au Dw.ae)).bind fun Tp=>
    iter (lh I M n Tp KO Dw (fun(z50,y51,PV,y53,Ts,y55)=>
     some (y51,PV,y53,Ts,y55)) (fun z56=>
     some (false,⟨#[]⟩,0,[],0))) n 0).bind fun(Mr,SB,Hh,uR,DK)=>
   (gN 2 0).bind fun k57=>
   (gK ([fc,fM]) k57).bind fun x58=>
   (gI a0.ab x58).bind fun x59=>
   (gN 2 1).bind fun k60=>
   (gK ([fc,fM]) k60).bind fun x61=>
   (gI x59.ae x61).bind fun x62=>
   (some (au x62.ops)).bind fun OS=>
   (some (au uR)).bind fun n64=>
   iter (lg I M n uR n64 (fun(z68,z69)=>
    (some (au nV)).bind fun n70=>
    (fN (I.not Mr) false (na I M n ([n70,z68,(I.wrap .i64 (I.sub (I.wrap .i64 (I.sub OS rv)) 1))])) default).bind fun y71=>
    bif (I.pick (I.not Mr) true (I.bg 60 y71))then
    (some (au xW)).bind fun n72=>
    (DI 8 n72 0).bind fun WH=>
    (some (nI (M.ln WH) xW WH)).bind fun l74=>
    (some (px (M.ln WH) xW)).bind fun n75=>
    bif (I.aU n72 0)then
     (aQ 56 nV (⟨fO.kind,fO.name,fO.num,[]⟩:aH)).bind fun l76=>
     (some (au l76)).bind fun YK=>
     (aQ 8 ud (I.wrap .i64 (I.sub YK 1))).bind fun O2=>
     some (l76,O2)
    else
     (eQ (M.ln WH) l74).bind fun u79=>
     (aQ 56 nV (⟨fO.kind,fO.name,fO.num,l74⟩:aH)).bind fun l80=>
     (some (au l80)).bind fun n81=>
     (aQ 8 ud (I.wrap .i64 (I.sub n81 1))).bind fun l82=>
     some (l80,l82)
    else
    (some (au uR)).bind fun YJ=>
    iter (lf I M n uR YJ xW (fun(as1,Mo,z109)=>
     (gI Mo DK).bind fun TT=>
     (aQ 8 ud TT).bind fun Mn=>
     some (as1,Mn))) n (nV,[],0))) n (0,0)
  else
   (gN 2 0).bind fun ah4=>
   (gK ([fc,fM]) ah4).bind fun aeB=>
   (gI a0.ab aeB).bind fun aeA=>
   (gN 2 1).bind fun ah3=>
   (gK ([fc,fM]) ah3).bind fun aez=>
   (gI aeA.ae aez).bind fun aey=>
   (some (au aey.ops)).bind fun Wo=>
   iter (ld I M n (fun _=>
    (some (au nV)).bind fun Wn=>
    (fN (I.not false) false (na I M n ([Wn,0,(I.wrap .i64 (I.sub (I.wrap .i64 (I.sub Wo rv)) 1))])) default).bind fun aes=>
    bif (I.pick (I.not false) true (I.bg 60 aes))then
    (some (au xW)).bind fun aaH=>
    (DI 8 aaH 0).bind fun Sz=>
    (some (nI (M.ln Sz) xW Sz)).bind fun Sy=>
    (some (px (M.ln Sz) xW)).bind fun amX=>
    bif (I.aU aaH 0)then
     (aQ 56 nV (⟨fO.kind,fO.name,fO.num,[]⟩:aH)).bind fun aa3=>
     (some (au aa3)).bind fun Wm=>
     (aQ 8 ud (I.wrap .i64 (I.sub Wm 1))).bind fun Sx=>
     some (aa3,Sx)
    else
     (eQ (M.ln Sz) Sy).bind fun alw=>
     (aQ 56 nV (⟨fO.kind,fO.name,fO.num,Sy⟩:aH)).bind fun Sw=>
     (some (au Sw)).bind fun Wl=>
     (aQ 8 ud (I.wrap .i64 (I.sub Wl 1))).bind fun aa2=>
     some (Sw,aa2)
    else
    iter (ka I M n (fun _=>
     none)) n ())) n ()).bind fun(WU,j32)=>
  self (WU,j32,(I.wrap .i64 (I.add rv 1)))
 else
  k (nV,ud,rv)
def pW(I:Pr)(M:Md)(n:Nat)(a0:af)(ba:af)(l9:List ai)(CW:Int)(vw:ai)(fc:Int)(k:(List Int)×(List ai)×Int→Option af)(self:(List Int)×(List ai)×Int→Option af)(st:(List Int)×(List ai)×Int):Option af:=
 match st with
 |(zu,uL,fM)=>
 bif (I.bg fM CW)then
  (gI vw.ae fM).bind fun eR=>
  (some (List.replicate 2 (0:Int))).bind fun vE=>
  (lx 2 vE).bind fun Zg=>
  (lx 2 ([fc,fM])).bind fun T5=>
  (lx 2 ([fc,fM])).bind fun u24=>
  (lx 2 zu).bind fun u25=>
  (some (au eR.ops)).bind fun n26=>
  iter (pV I M n a0 ba n26 eR fc fM (fun(aa1,asX,z134)=>
   (gI asX eR.result).bind fun aew=>
   (gN 2 0).bind fun anj=>
   (gK ([fc,fM]) anj).bind fun alp=>
   (gN (M.ln l9) alp).bind fun ah1=>
   (gK uL ah1).bind fun Zd=>
   (aQ 56 Zd.ae (⟨eR.head,eR.aN,aa1,aew⟩:ah)).bind fun anc=>
   (nO uL ah1 (⟨Zd.name,Zd.aG,anc⟩:ai)).bind fun anb=>
   self ([fc,fM],anb,(I.wrap .i64 (I.add fM 1))))) n ([],[],0)
 else
  k (zu,uL,fM)
def pX(I:Pr)(M:Md)(n:Nat)(a0:af)(ba:af)(l9:List ai)(yG:Int)(k:(List Int)×(List ai)×Int→Option af)(self:(List Int)×(List ai)×Int→Option af)(st:(List Int)×(List ai)×Int):Option af:=
 match st with
 |(gJ,zW,fc)=>
 bif (I.bg fc yG)then
  (gI a0.ab fc).bind fun vw=>
  (some (au vw.ae)).bind fun CW=>
  iter (pW I M n a0 ba l9 CW vw fc (fun(asW,asV,z144)=>
   self (asW,asV,(I.wrap .i64 (I.add fc 1))))) n (gJ,zW,0)
 else
  k (gJ,zW,fc)
def pY(I:Pr)(M:Md)(n:Nat)(a0:af)(n2:Int)(k:(List ai)×Int→Option af)(self:(List ai)×Int→Option af)(st:(List ai)×Int):Option af:=
 match st with
 |(l5,z6)=>
 bif (I.bg z6 n2)then
  (gI a0.ab z6).bind fun x7=>
  (aQ 48 l5 (⟨x7.name,x7.aG,[]⟩:ai)).bind fun l8=>
  self (l8,(I.wrap .i64 (I.add z6 1)))
 else
  k (l5,z6)
def rX(I:Pr)(M:Md)(n:Nat)(a0:af)(ba:af):Option af:=
 (some (List.replicate 2 (0:Int))).bind fun l1=>
 (some (au a0.ab)).bind fun n2=>
 bif (I.bg 0 n2)then
 (gI a0.ab 0).bind fun x3=>
 (aQ 48 [] (⟨x3.name,x3.aG,[]⟩:ai)).bind fun l4=>
 iter (pY I M n a0 n2 (fun(l9,xV)=>
  (some (au a0.ab)).bind fun yG=>
  iter (pX I M n a0 ba l9 yG (fun(l145,ana,z147)=>
   (eQ (M.ln l9) ana).bind fun arc=>
   some (⟨ana⟩:af))) n (l1,l9,0))) n (l4,(I.wrap .i64 (I.add 0 1)))
 else
 none
def uF(I:Pr)(M:Md)(n:Nat)(a0:af):Option (af×Int):=
 (dV I M n a0).bind fun y1=>
 bif (I.not (I.aU y1 0))then
 some ((⟨[]⟩:af),y1)
 else
 (rX I M n a0 a0).bind fun y2=>
 some (y2,0)
def p8(I:Pr)(M:Md)(n:Nat)(a1:af):Option af:=
 (uF I M n (⟨a1.ab⟩:af)).bind fun y1=>
 some y1.1
def iz(I:Pr)(M:Md)(n:Nat)(a0:List Int)(a1:List Int)(n1:Int)(k:Int→Option Bool)(self:Int→Option Bool)(z3:Int):Option Bool:=
 bif (I.bg z3 n1)then
  (gI a0 z3).bind fun x4=>
  (gI a1 z3).bind fun x5=>
  bif (I.not (I.aU x4 x5))then
  some false
  else
  self (I.wrap .i64 (I.add z3 1))
 else
  k z3
def da(I:Pr)(M:Md)(n:Nat)(a0:List Int)(a1:List Int):Option Bool:=
 (some (au a0)).bind fun n1=>
 (some (au a1)).bind fun n2=>
 bif (I.not (I.aU n1 n2))then
 some false
 else
 iter (iz I M n a0 a1 n1 (fun z6=>
  some true)) n 0
def qO(I:Pr)(M:Md)(n:Nat)(vY:List aH)(n33:Int)(qy:aH)(Zc:List Int)(No:List Int)(k:Int×Int→Option ((List (cA×List Int))×(List aH)×(List Int)))(k2:Int→Option ((List (cA×List Int))×(List aH)×(List Int)))(self:Int→Option ((List (cA×List Int))×(List aH)×(List Int)))(vV:Int):Option ((List (cA×List Int))×(List aH)×(List Int)):=
 bif (I.bg vV n33)then
  (gI Zc vV).bind fun rz=>
  (gI vY rz).bind fun I5=>
  (some (decide ((⟨I5.kind,I5.name,I5.num⟩:cA)=(⟨qy.kind,qy.name,qy.num⟩:cA)))).bind fun b37=>
  (fN b37 true (da I M n I5.args No) default).bind fun y38=>
  bif (I.pick b37 y38 false)then
  k (vV,rz)
  else
  self (I.wrap .i64 (I.add vV 1))
 else
  k2 vV
def wA(I:Pr)(M:Md)(n:Nat)(n22:Int)(yo:ah)(k:(List aH)×(List Int)×(List (cA×List Int))×Int→Option (af×Int))(self:(List aH)×(List Int)×(List (cA×List Int))×Int→Option (af×Int))(st:(List aH)×(List Int)×(List (cA×List Int))×Int):Option (af×Int):=
 match st with
 |(vY,H9,Ep,zU)=>
 bif (I.bg zU n22)then
  (gI yo.ops zU).bind fun qy=>
  (
  (bD I M n yo.head yo.aN vY 0 H9 qy.args).bind fun No=>
  (some (H3 Ep (⟨qy.kind,qy.name,qy.num⟩:cA) [])).bind fun Zc=>
  (some (au Zc)).bind fun n33=>
  iter (qO I M n vY n33 qy Zc No (fun(z39,Dw)=>
   (aQ 8 H9 Dw).bind fun Tt=>
   some (Ep,vY,Tt)) (fun z42=>
   (some (au No)).bind fun n43=>
   (DI 8 n43 0).bind fun Eo=>
   (some (nI (M.ln Eo) No Eo)).bind fun Qv=>
   (some (px (M.ln Eo) No)).bind fun OT=>
   bif (I.aU n43 0)then
    (aQ 56 vY (⟨qy.kind,qy.name,qy.num,[]⟩:aH)).bind fun Ml=>
    (some (au Ml)).bind fun Na=>
    (some (abM Ep (⟨qy.kind,qy.name,qy.num⟩:cA))).bind fun(YP,k51,YO)=>
    (aQ 8 YO (I.wrap .i64 (I.sub Na 1))).bind fun Ts=>
    (aac YP k51 Ts).bind fun Tq=>
    (aQ 8 H9 (I.wrap .i64 (I.sub Na 1))).bind fun Sq=>
    some (Tq,Ml,Sq)
   else
    (eQ (M.ln Eo) Qv).bind fun u57=>
    (aQ 56 vY (⟨qy.kind,qy.name,qy.num,Qv⟩:aH)).bind fun O5=>
    (some (au O5)).bind fun n59=>
    (some (abM Ep (⟨qy.kind,qy.name,qy.num⟩:cA))).bind fun(l61,k62,l63)=>
    (aQ 8 l63 (I.wrap .i64 (I.sub n59 1))).bind fun l65=>
    (aac l61 k62 l65).bind fun YN=>
    (aQ 8 H9 (I.wrap .i64 (I.sub n59 1))).bind fun l67=>
    some (YN,O5,l67))) n 0).bind fun(ud,j29,j30)=>
  self (j29,j30,ud,(I.wrap .i64 (I.add zU 1)))
 else
  k (vY,H9,Ep,zU)
def wB(I:Pr)(M:Md)(n:Nat)(l9:List ai)(n15:Int)(yp:ai)(lV:Int)(k:(List ai)×Int→Option (af×Int))(self:(List ai)×Int→Option (af×Int))(st:(List ai)×Int):Option (af×Int):=
 match st with
 |(l16,GS)=>
 bif (I.bg GS n15)then
  (gI yp.ae GS).bind fun yo=>
  (some (List.replicate 2 (0:Int))).bind fun Sv=>
  (lx 2 Sv).bind fun u20=>
  (lx 2 ([lV,GS])).bind fun u21=>
  (some (au yo.ops)).bind fun n22=>
  iter (wA I M n n22 yo (fun(YM,l69,O3,z71)=>
   (gI l69 yo.result).bind fun x72=>
   (gN 2 0).bind fun k73=>
   (gK ([lV,GS]) k73).bind fun x74=>
   (gN (M.ln l9) x74).bind fun k75=>
   (gK l16 k75).bind fun x76=>
   (aQ 56 x76.ae (⟨yo.head,yo.aN,YM,x72⟩:ah)).bind fun l77=>
   (nO l16 k75 (⟨x76.name,x76.aG,l77⟩:ai)).bind fun O2=>
   self (O2,(I.wrap .i64 (I.add GS 1))))) n ([],[],([]:List (cA×List Int)),0)
 else
  k (l16,GS)
def wC(I:Pr)(M:Md)(n:Nat)(a0:af)(l9:List ai)(yG:Int)(k:(List ai)×Int→Option (af×Int))(self:(List ai)×Int→Option (af×Int))(st:(List ai)×Int):Option (af×Int):=
 match st with
 |(gJ,lV)=>
 bif (I.bg lV yG)then
  (gI a0.ab lV).bind fun yp=>
  (some (au yp.ae)).bind fun n15=>
  iter (wB I M n l9 n15 yp lV (fun(l79,z80)=>
   self (l79,(I.wrap .i64 (I.add lV 1))))) n (gJ,0)
 else
  k (gJ,lV)
def wD(I:Pr)(M:Md)(n:Nat)(a0:af)(n2:Int)(k:(List ai)×Int→Option (af×Int))(self:(List ai)×Int→Option (af×Int))(st:(List ai)×Int):Option (af×Int):=
 match st with
 |(l5,z6)=>
 bif (I.bg z6 n2)then
  (gI a0.ab z6).bind fun x7=>
  (aQ 48 l5 (⟨x7.name,x7.aG,[]⟩:ai)).bind fun l8=>
  self (l8,(I.wrap .i64 (I.add z6 1)))
 else
  k (l5,z6)
def At(I:Pr)(M:Md)(n:Nat)(a0:af):Option (af×Int):=
 (dV I M n a0).bind fun y1=>
 bif (I.not (I.aU y1 0))then
 some ((⟨[]⟩:af),y1)
 else
 (some (au a0.ab)).bind fun n2=>
 bif (I.bg 0 n2)then
  (gI a0.ab 0).bind fun x3=>
  (aQ 48 [] (⟨x3.name,x3.aG,[]⟩:ai)).bind fun l4=>
  iter (wD I M n a0 n2 (fun(l9,xV)=>
   (some (au a0.ab)).bind fun yG=>
   iter (wC I M n a0 l9 yG (fun(l81,z82)=>
    (eQ (M.ln l9) l81).bind fun u83=>
    some ((⟨l81⟩:af),0))) n (l9,0))) n (l4,(I.wrap .i64 (I.add 0 1)))
 else
  none
def p7(I:Pr)(M:Md)(n:Nat)(a1:af):Option af:=
 (At I M n (⟨a1.ab⟩:af)).bind fun y1=>
 some y1.1
def Dg(I:Pr)(M:Md)(n:Nat)(a0:af)(a1:Int)(a2:Int):Option (ah×Int):=
 (dV I M n a0).bind fun y1=>
 bif (I.not (I.aU y1 0))then
 some ((⟨⟨#[]⟩,0,[],0⟩:ah),y1)
 else
 (some (au a0.ab)).bind fun n2=>
 (fN (I.pick (I.pick (I.bg a1 0) true (I.uT n2 a1)) true (I.bg a2 0)) false (gI a0.ab a1) default).bind fun x3=>
 (some (au x3.ae)).bind fun n4=>
 bif (I.pick (I.pick (I.pick (I.bg a1 0) true (I.uT n2 a1)) true (I.bg a2 0)) true (I.uT n4 a2))then
  some ((⟨⟨#[]⟩,0,[],0⟩:ah),1)
 else
  (gI a0.ab a1).bind fun x5=>
  (gI x5.ae a2).bind fun x6=>
  some (x6,0)
def Dh(I:Pr)(M:Md)(n:Nat)(l3:List Bool)(DG:Int)(x9:aH)(k:(List Bool)×Int→Option ((List Bool)×Int))(self:(List Bool)×Int→Option ((List Bool)×Int))(st:(List Bool)×Int):Option ((List Bool)×Int):=
 match st with
 |(vN,kr)=>
 bif (I.bg kr DG)then
  (gI x9.args kr).bind fun pA=>
  (gN (M.ln l3) pA).bind fun WT=>
  (gK vN WT).bind fun KP=>
  (nO vN WT true).bind fun Qw=>
  self (Qw,(I.wrap .i64 (I.add kr 1)))
 else
  k (vN,kr)
def Di(I:Pr)(M:Md)(n:Nat)(l3:List Bool)(y1:ah×Int)(k:(List Bool)×Int→Option ((List Bool)×Int))(self:(List Bool)×Int→Option ((List Bool)×Int))(st:(List Bool)×Int):Option ((List Bool)×Int):=
 match st with
 |(l7,z8)=>
 bif (I.uT 0 z8)then
  (gI y1.1.ops z8).bind fun x9=>
  (gN (M.ln l3) z8).bind fun Tv=>
  (gK l7 Tv).bind fun Ac=>
  (nO l7 Tv (I.pick (I.pick Ac true (I.aU x9.kind 4)) true (I.aU x9.kind 5))).bind fun gJ=>
  (gK gJ Tv).bind fun GU=>
  bif GU then
  (some (au x9.args)).bind fun DG=>
  iter (Dh I M n l3 DG x9 (fun(vE,D8)=>
   self (vE,(I.wrap .i64 (I.sub z8 1))))) n (gJ,0)
  else
  self (gJ,(I.wrap .i64 (I.sub z8 1)))
 else
  k (l7,z8)
def IA(I:Pr)(M:Md)(n:Nat)(a0:af)(a1:Int)(a2:Int):Option ((List Bool)×Int):=
 (Dg I M n a0 a1 a2).bind fun y1=>
 bif (I.not (I.aU y1.2 0))then
 some ([],y1.2)
 else
 (some (au y1.1.ops)).bind fun n2=>
 (DI 1 n2 false).bind fun l3=>
 (gN (M.ln l3) y1.1.result).bind fun k4=>
 (gK l3 k4).bind fun x5=>
 (nO l3 k4 true).bind fun l6=>
 iter (Di I M n l3 y1 (fun(vY,Tl)=>
  (eQ (M.ln l3) vY).bind fun u25=>
  some (vY,0))) n (l6,(I.wrap .i64 (I.sub n2 1)))
def yA(I:Pr)(M:Md)(n:Nat)(n29:Int)(eR:ah)(Rl:(List Bool)×Int)(k:(List aH)×(List Int)×Int→Option (af×Int))(self:(List aH)×(List Int)×Int→Option (af×Int))(st:(List aH)×(List Int)×Int):Option (af×Int):=
 match st with
 |(Mm,Su,G0)=>
 bif (I.bg G0 n29)then
  (gI eR.ops G0).bind fun Hw=>
  (
  (gI Rl.1 G0).bind fun I5=>
  bif (I.not I5)then
   (aQ 8 Su 0).bind fun KR=>
   some (Mm,KR)
  else
   (
   (bD I M n eR.head eR.aN Mm 0 Su Hw.args).bind fun Dw=>
   (some (au Dw)).bind fun YL=>
   (DI 8 YL 0).bind fun H7=>
   (some (nI (M.ln H7) Dw H7)).bind fun Nc=>
   (some (px (M.ln H7) Dw)).bind fun n44=>
   bif (I.aU YL 0)then
    (aQ 56 Mm (⟨Hw.kind,Hw.name,Hw.num,[]⟩:aH)).bind fun Qv=>
    (some (au Qv)).bind fun OT=>
    some ((I.wrap .i64 (I.sub OT 1)),Qv)
   else
    (eQ (M.ln H7) Nc).bind fun u47=>
    (aQ 56 Mm (⟨Hw.kind,Hw.name,Hw.num,Nc⟩:aH)).bind fun YQ=>
    (some (au YQ)).bind fun Wk=>
    some ((I.wrap .i64 (I.sub Wk 1)),YQ)).bind fun(uR,DK)=>
   (aQ 8 Su uR).bind fun YP=>
   some (DK,YP)).bind fun(j34,Mr)=>
  self (j34,Mr,(I.wrap .i64 (I.add G0 1)))
 else
  k (Mm,Su,G0)
def yB(I:Pr)(M:Md)(n:Nat)(a0:af)(l9:List ai)(CW:Int)(vw:ai)(fc:Int)(k:(List Bool)×(List ai)×Int→Option (af×Int))(self:(List Bool)×(List ai)×Int→Option (af×Int))(st:(List Bool)×(List ai)×Int):Option (af×Int):=
 match st with
 |(zu,uL,fM)=>
 bif (I.bg fM CW)then
  (gI vw.ae fM).bind fun eR=>
  (some (List.replicate 2 (0:Int))).bind fun vE=>
  (lx 2 vE).bind fun Zg=>
  (lx 2 ([fc,fM])).bind fun T5=>
  (gN 2 0).bind fun k24=>
  (gK ([fc,fM]) k24).bind fun z0=>
  (gN 2 1).bind fun k26=>
  (gK ([fc,fM]) k26).bind fun qy=>
  (IA I M n a0 z0 qy).bind fun Rl=>
  (some (au eR.ops)).bind fun n29=>
  iter (yA I M n n29 eR Rl (fun(l51,YO,z53)=>
   (gI YO eR.result).bind fun x54=>
   (gN 2 0).bind fun k55=>
   (gK ([fc,fM]) k55).bind fun x56=>
   (gN (M.ln l9) x56).bind fun k57=>
   (gK uL k57).bind fun x58=>
   (aQ 56 x58.ae (⟨eR.head,eR.aN,l51,x54⟩:ah)).bind fun Qu=>
   (nO uL k57 (⟨x58.name,x58.aG,Qu⟩:ai)).bind fun H5=>
   self (Rl.1,H5,(I.wrap .i64 (I.add fM 1))))) n ([],[],0)
 else
  k (zu,uL,fM)
def yC(I:Pr)(M:Md)(n:Nat)(a0:af)(l9:List ai)(yG:Int)(k:(List Bool)×(List ai)×Int→Option (af×Int))(self:(List Bool)×(List ai)×Int→Option (af×Int))(st:(List Bool)×(List ai)×Int):Option (af×Int):=
 match st with
 |(gJ,zW,fc)=>
 bif (I.bg fc yG)then
  (gI a0.ab fc).bind fun vw=>
  (some (au vw.ae)).bind fun CW=>
  iter (yB I M n a0 l9 CW vw fc (fun(l61,O4,z63)=>
   self (l61,O4,(I.wrap .i64 (I.add fc 1))))) n (gJ,zW,0)
 else
  k (gJ,zW,fc)
def yD(I:Pr)(M:Md)(n:Nat)(a0:af)(n2:Int)(k:(List ai)×Int→Option (af×Int))(self:(List ai)×Int→Option (af×Int))(st:(List ai)×Int):Option (af×Int):=
 match st with
 |(l5,z6)=>
 bif (I.bg z6 n2)then
  (gI a0.ab z6).bind fun x7=>
  (aQ 48 l5 (⟨x7.name,x7.aG,[]⟩:ai)).bind fun l8=>
  self (l8,(I.wrap .i64 (I.add z6 1)))
 else
  k (l5,z6)
def wE(I:Pr)(M:Md)(n:Nat)(a0:af):Option (af×Int):=
 (dV I M n a0).bind fun y1=>
 bif (I.not (I.aU y1 0))then
 some ((⟨[]⟩:af),y1)
 else
 (some (au a0.ab)).bind fun n2=>
 bif (I.bg 0 n2)then
  (gI a0.ab 0).bind fun x3=>
  (aQ 48 [] (⟨x3.name,x3.aG,[]⟩:ai)).bind fun l4=>
  iter (yD I M n a0 n2 (fun(l9,xV)=>
   (some (au a0.ab)).bind fun yG=>
   iter (yC I M n a0 l9 yG (fun(Sp,l65,Ti)=>
    (eQ (M.ln l9) l65).bind fun u67=>
    some ((⟨l65⟩:af),0))) n ([],l9,0))) n (l4,(I.wrap .i64 (I.add 0 1)))
 else
  none
def p6(I:Pr)(M:Md)(n:Nat)(a1:af):Option af:=
 (wE I M n (⟨a1.ab⟩:af)).bind fun y1=>
 some y1.1
def yL(I:Pr)(M:Md)(n:Nat)(yG:Int)(Dz:ah)(k:(List Int)×Int→Option (List Int))(self:(List Int)×Int→Option (List Int))(st:(List Int)×Int):Option (List Int):=
 match st with
 |(gJ,lV)=>
 bif (I.bg lV yG)then
  (gI Dz.ops lV).bind fun yp=>
  bif (I.pick (I.bg yp.kind 1) true (I.bg 5 yp.kind))then
  (gN 6 0).bind fun k15=>
  (gK gJ k15).bind fun x16=>
  (nO gJ k15 (I.wrap .i64 (I.add x16 1))).bind fun zu=>
  self (zu,(I.wrap .i64 (I.add lV 1)))
  else
  (gN 6 yp.kind).bind fun WT=>
  (gK gJ WT).bind fun KP=>
  (nO gJ WT (I.wrap .i64 (I.add KP 1))).bind fun Qw=>
  self (Qw,(I.wrap .i64 (I.add lV 1)))
 else
  k (gJ,lV)
def yM(I:Pr)(M:Md)(n:Nat)(n7:Int)(x6:ai)(k:(List Int)×Int→Option (List Int))(self:(List Int)×Int→Option (List Int))(st:(List Int)×Int):Option (List Int):=
 match st with
 |(l8,z9)=>
 bif (I.bg z9 n7)then
  (gI x6.ae z9).bind fun Dz=>
  (some (au Dz.ops)).bind fun yG=>
  iter (yL I M n yG Dz (fun(vE,D8)=>
   self (vE,(I.wrap .i64 (I.add z9 1))))) n (l8,0)
 else
  k (l8,z9)
def yN(I:Pr)(M:Md)(n:Nat)(a0:af)(n3:Int)(k:(List Int)×Int→Option (List Int))(self:(List Int)×Int→Option (List Int))(st:(List Int)×Int):Option (List Int):=
 match st with
 |(l4,z5)=>
 bif (I.bg z5 n3)then
  (gI a0.ab z5).bind fun x6=>
  (some (au x6.ae)).bind fun n7=>
  iter (yM I M n n7 x6 (fun(vY,Tl)=>
   self (vY,(I.wrap .i64 (I.add z5 1))))) n (l4,0)
 else
  k (l4,z5)
def xo(I:Pr)(M:Md)(n:Nat)(a0:af):Option (List Int):=
 (some (List.replicate 6 (0:Int))).bind fun l1=>
 (some (List.replicate 6 (0:Int))).bind fun l2=>
 (some (au a0.ab)).bind fun n3=>
 iter (yN I M n a0 n3 (fun(Ep,zU)=>
  (lx 6 Ep).bind fun u27=>
  (lx 6 l1).bind fun u28=>
  (lx 6 Ep).bind fun u29=>
  some Ep)) n (l2,0)
def Dj(I:Pr)(M:Md)(n:Nat)(a0:aH)(a1:aH):Option Bool:=
 (fN (I.pick (I.pick (I.aU a0.kind a1.kind) (I.seq a0.name a1.name) false) (I.aU a0.num a1.num) false) true (da I M n a0.args a1.args) default).bind fun y1=>
 some (I.pick (I.pick (I.pick (I.aU a0.kind a1.kind) (I.seq a0.name a1.name) false) (I.aU a0.num a1.num) false) y1 false)
def lE(I:Pr)(M:Md)(n:Nat)(a0:List aH)(a1:List aH)(n1:Int)(k:Int→Option Bool)(self:Int→Option Bool)(z3:Int):Option Bool:=
 bif (I.bg z3 n1)then
  (gI a0 z3).bind fun x4=>
  (gI a1 z3).bind fun x5=>
  (Dj I M n x4 x5).bind fun y6=>
  bif (I.not y6)then
  some false
  else
  self (I.wrap .i64 (I.add z3 1))
 else
  k z3
def mT(I:Pr)(M:Md)(n:Nat)(a0:List aH)(a1:List aH):Option Bool:=
 (some (au a0)).bind fun n1=>
 (some (au a1)).bind fun n2=>
 bif (I.not (I.aU n1 n2))then
 some false
 else
 iter (lE I M n a0 a1 n1 (fun z7=>
  some true)) n 0
def xq(I:Pr)(M:Md)(n:Nat)(a0:ah)(a1:ah):Option Bool:=
 (fN (I.pick (I.pick (I.seq a0.head a1.head) (I.aU a0.aN a1.aN) false) (I.aU a0.result a1.result) false) true (mT I M n a0.ops a1.ops) default).bind fun y1=>
 some (I.pick (I.pick (I.pick (I.seq a0.head a1.head) (I.aU a0.aN a1.aN) false) (I.aU a0.result a1.result) false) y1 false)
def ja(I:Pr)(M:Md)(n:Nat)(a0:List ah)(a1:List ah)(n1:Int)(k:Int→Option Bool)(self:Int→Option Bool)(z3:Int):Option Bool:=
 bif (I.bg z3 n1)then
  (gI a0 z3).bind fun x4=>
  (gI a1 z3).bind fun x5=>
  (xq I M n x4 x5).bind fun y6=>
  bif (I.not y6)then
  some false
  else
  self (I.wrap .i64 (I.add z3 1))
 else
  k z3
def jZ(I:Pr)(M:Md)(n:Nat)(a0:List ah)(a1:List ah):Option Bool:=
 (some (au a0)).bind fun n1=>
 (some (au a1)).bind fun n2=>
 bif (I.not (I.aU n1 n2))then
 some false
 else
 iter (ja I M n a0 a1 n1 (fun z7=>
  some true)) n 0
def xp(I:Pr)(M:Md)(n:Nat)(a0:ai)(a1:ai):Option Bool:=
 (fN (I.pick (I.seq a0.name a1.name) (I.aU a0.aG a1.aG) false) true (jZ I M n a0.ae a1.ae) default).bind fun y1=>
 some (I.pick (I.pick (I.seq a0.name a1.name) (I.aU a0.aG a1.aG) false) y1 false)
def jG(I:Pr)(M:Md)(n:Nat)(a0:List ai)(a1:List ai)(n1:Int)(k:Int→Option Bool)(self:Int→Option Bool)(z3:Int):Option Bool:=
 bif (I.bg z3 n1)then
  (gI a0 z3).bind fun x4=>
  (gI a1 z3).bind fun x5=>
  (xp I M n x4 x5).bind fun y6=>
  bif (I.not y6)then
  some false
  else
  self (I.wrap .i64 (I.add z3 1))
 else
  k z3
def kV(I:Pr)(M:Md)(n:Nat)(a0:List ai)(a1:List ai):Option Bool:=
 (some (au a0)).bind fun n1=>
 (some (au a1)).bind fun n2=>
 bif (I.not (I.aU n1 n2))then
 some false
 else
 iter (jG I M n a0 a1 n1 (fun z7=>
  some true)) n 0
def oq(I:Pr)(M:Md)(n:Nat)(a0:af)(a1:af):Option Bool:=
 (xo I M n (⟨a0.ab⟩:af)).bind fun y1=>
 (xo I M n (⟨a1.ab⟩:af)).bind fun y2=>
 (lx 6 y1).bind fun u3=>
 (lx 6 y2).bind fun u4=>
 (some (decide (y1=y2))).bind fun b5=>
 (fN b5 true (kV I M n a0.ab a1.ab) default).bind fun y6=>
 some (I.pick b5 y6 false)
def Au(I:Pr)(M:Md)(n:Nat)(k:(List ai)×Int×Int→Option (af×Int×Int))(self:(List ai)×Int×Int→Option (af×Int×Int))(st:(List ai)×Int×Int):Option (af×Int×Int):=
 match st with
 |(l3,z4,z5)=>
 bif (I.bg z4 20)then
  (qa I M n (⟨l3⟩:af)).bind fun y6=>
  (p9 I M n y6).bind fun y7=>
  (p8 I M n y7).bind fun y8=>
  (p7 I M n y8).bind fun y9=>
  (p6 I M n y9).bind fun yU=>
  (oq I M n yU (⟨l3⟩:af)).bind fun uf=>
  bif uf then
  k (l3,z4,z5)
  else
  self (yU.ab,(I.wrap .i64 (I.add z4 1)),(I.wrap .i64 (I.add z5 1)))
 else
  k (l3,z4,z5)
def FD(I:Pr)(M:Md)(n:Nat)(a0:af):Option (af×Int×Int):=
 (dV I M n a0).bind fun y1=>
 bif (I.not (I.aU y1 0))then
 some ((⟨[]⟩:af),0,y1)
 else
 (oe I M n a0).bind fun y2=>
 iter (Au I M n (fun(gJ,lV,fc)=>
  some ((⟨gJ⟩:af),fc,0))) n (y2.ab,0,0)
def Mk(I:Pr)(M:Md)(n:Nat)(a0:ByteArray)(a1:Int)(a2:Int)(a3:List aH):Option ah:=
 some (⟨a0,a1,a3,a2⟩:ah)
def zr(I:Pr)(M:Md)(n:Nat):Option af:=
 (bO I M n 2 (⟨#[]⟩:ByteArray) 0 []).bind fun y1=>
 (Mk I M n (⟨#[115]⟩:ByteArray) 1 0 ([y1])).bind fun y2=>
 (cG I M n (⟨#[102]⟩:ByteArray) 1 ([y2])).bind fun y3=>
 (bO I M n 3 (⟨#[97]⟩:ByteArray) 0 []).bind fun y4=>
 (bO I M n 3 (⟨#[115]⟩:ByteArray) 0 ([0])).bind fun y5=>
 (bO I M n 5 (⟨#[102]⟩:ByteArray) 0 ([1])).bind fun y6=>
 (dr I M n 2 ([y4,y5,y6])).bind fun y7=>
 (cG I M n (⟨#[103]⟩:ByteArray) 0 y7).bind fun y8=>
 (qY I M n ([y3,y8])).bind fun y9=>
 some y9
def se(I:Pr)(M:Md)(n:Nat)(a0:List Int):Option (List Int):=
 (KE 8 [] a0).bind fun l1=>
 some l1
def mC(I:Pr)(M:Md)(n:Nat)(n9:Int)(x8:ah)(k:(List aH)×Int→Option af)(self:(List aH)×Int→Option af)(st:(List aH)×Int):Option af:=
 match st with
 |(l10,Yw)=>
 bif (I.bg Yw n9)then
  (gI x8.ops Yw).bind fun v3=>
  (se I M n v3.args).bind fun ue=>
  (aQ 56 l10 (⟨v3.kind,v3.name,v3.num,ue⟩:aH)).bind fun WL=>
  self (WL,(I.wrap .i64 (I.add Yw 1)))
 else
  k (l10,Yw)
def mD(I:Pr)(M:Md)(n:Nat)(n5:Int)(x4:ai)(k:(List ah)×Int→Option af)(self:(List ah)×Int→Option af)(st:(List ah)×Int):Option af:=
 match st with
 |(l6,z7)=>
 bif (I.bg z7 n5)then
  (gI x4.ae z7).bind fun x8=>
  (some (au x8.ops)).bind fun n9=>
  iter (mC I M n n9 x8 (fun(vN,kr)=>
   (aQ 56 l6 (⟨x8.head,x8.aN,vN,x8.result⟩:ah)).bind fun zu=>
   self (zu,(I.wrap .i64 (I.add z7 1))))) n ([],0)
 else
  k (l6,z7)
def oT(I:Pr)(M:Md)(n:Nat)(a0:af)(n1:Int)(k:(List ai)×Int→Option af)(self:(List ai)×Int→Option af)(st:(List ai)×Int):Option af:=
 match st with
 |(l2,z3)=>
 bif (I.bg z3 n1)then
  (gI a0.ab z3).bind fun x4=>
  (some (au x4.ae)).bind fun n5=>
  iter (mD I M n n5 x4 (fun(uL,fM)=>
   (aQ 48 l2 (⟨x4.name,x4.aG,uL⟩:ai)).bind fun Qw=>
   self (Qw,(I.wrap .i64 (I.add z3 1))))) n ([],0)
 else
  k (l2,z3)
def tB(I:Pr)(M:Md)(n:Nat)(a0:af):Option af:=
 (some (au a0.ab)).bind fun n1=>
 iter (oT I M n a0 n1 (fun(vE,D8)=>
  some (⟨vE⟩:af))) n ([],0)
def il(I:Pr)(M:Md)(n:Nat)(a0:af)(a1:ByteArray):Option (Int×Int):=
 (dV I M n a0).bind fun y1=>
 bif (I.not (I.aU y1 0))then
 some (0,y1)
 else
 (cV I M n a1 a0).bind fun y2=>
 bif (I.bg y2 0)then
  some (0,1)
 else
  some (y2,0)
def gM(I:Pr)(M:Md)(n:Nat)(a0:aH)(a1:aH)(a2:af)(a3:List Int):Option Bool:=
 (fN (I.pick (I.not (I.aU a0.kind a1.kind)) true (I.not (I.aU a0.num a1.num))) false (da I M n a0.args a1.args) default).bind fun y1=>
 bif (I.pick (I.pick (I.not (I.aU a0.kind a1.kind)) true (I.not (I.aU a0.num a1.num))) true (I.not y1))then
 some false
 else
 (ei I M n a0).bind fun y2=>
 bif (I.not y2)then
  some (I.seq a0.name a1.name)
 else
  (il I M n a2 a0.name).bind fun y3=>
  (il I M n a2 a1.name).bind fun y4=>
  (lx 12 a3).bind fun u5=>
  (gI a3 y3.1).bind fun x6=>
  (gI a3 y4.1).bind fun x7=>
  some (I.aU x6 x7)
def dW(I:Pr)(M:Md)(n:Nat)(a0:List aH)(a1:List aH)(Cy:af)(Cx:List Int)(n1:Int)(k:Int→Option Bool)(self:Int→Option Bool)(z3:Int):Option Bool:=
 bif (I.bg z3 n1)then
  (gI a0 z3).bind fun x4=>
  (gI a1 z3).bind fun x5=>
  (gM I M n x4 x5 Cy Cx).bind fun y6=>
  bif (I.not y6)then
  some false
  else
  self (I.wrap .i64 (I.add z3 1))
 else
  k z3
def eT(I:Pr)(M:Md)(n:Nat)(a0:List aH)(a1:List aH)(Cy:af)(Cx:List Int):Option Bool:=
 (some (au a0)).bind fun n1=>
 (some (au a1)).bind fun n2=>
 bif (I.not (I.aU n1 n2))then
 some false
 else
 iter (dW I M n a0 a1 Cy Cx n1 (fun z7=>
  some true)) n 0
def m0(I:Pr)(M:Md)(n:Nat)(a0:af)(a1:List Int)(a2:ah)(a3:ah):Option Bool:=
 (fN (I.pick (I.pick (I.seq a2.head a3.head) (I.aU a2.aN a3.aN) false) (I.aU a2.result a3.result) false) true (eT I M n a2.ops a3.ops (⟨a0.ab⟩:af) a1) default).bind fun y1=>
 some (I.pick (I.pick (I.pick (I.seq a2.head a3.head) (I.aU a2.aN a3.aN) false) (I.aU a2.result a3.result) false) y1 false)
def jz(I:Pr)(M:Md)(n:Nat)(a0:ah)(a1:ah)(a2:af)(a3:List Int):Option Bool:=
 (lx 12 a3).bind fun u1=>
 (m0 I M n a2 a3 a0 a1).bind fun y2=>
 some y2
def cU(I:Pr)(M:Md)(n:Nat)(a0:List ah)(a1:List ah)(Cy:af)(Cx:List Int)(n1:Int)(k:Int→Option Bool)(self:Int→Option Bool)(z3:Int):Option Bool:=
 bif (I.bg z3 n1)then
  (gI a0 z3).bind fun x4=>
  (gI a1 z3).bind fun x5=>
  (jz I M n x4 x5 Cy Cx).bind fun y6=>
  bif (I.not y6)then
  some false
  else
  self (I.wrap .i64 (I.add z3 1))
 else
  k z3
def dk(I:Pr)(M:Md)(n:Nat)(a0:List ah)(a1:List ah)(Cy:af)(Cx:List Int):Option Bool:=
 (some (au a0)).bind fun n1=>
 (some (au a1)).bind fun n2=>
 bif (I.not (I.aU n1 n2))then
 some false
 else
 iter (cU I M n a0 a1 Cy Cx n1 (fun z7=>
  some true)) n 0
def eN(I:Pr)(M:Md)(n:Nat)(a0:ai)(a1:af)(a2:List Int)(a3:Int)(a4:ai):Option Bool:=
 (il I M n a1 a0.name).bind fun y1=>
 (lx 12 a2).bind fun u2=>
 (gI a2 y1.1).bind fun x3=>
 (gI a2 a3).bind fun x4=>
 (fN (I.pick (I.aU x3 x4) (I.aU a0.aG a4.aG) false) true (dk I M n a0.ae a4.ae (⟨a1.ab⟩:af) a2) default).bind fun y5=>
 some (I.pick (I.pick (I.aU x3 x4) (I.aU a0.aG a4.aG) false) y5 false)
def jC(I:Pr)(M:Md)(n:Nat)(a0:List ai)(ba:af)(vU:List Int)(Tc:Int)(Tb:ai)(n1:Int)(k:Int→Option Int)(self:Int→Option Int)(z2:Int):Option Int:=
 bif (I.bg z2 n1)then
  (gI a0 z2).bind fun x3=>
  (eN I M n x3 ba vU Tc Tb).bind fun y4=>
  bif y4 then
  some z2
  else
  self (I.wrap .i64 (I.add z2 1))
 else
  k z2
def dH(I:Pr)(M:Md)(n:Nat)(a0:List ai)(ba:af)(vU:List Int)(Tc:Int)(Tb:ai):Option Int:=
 (some (au a0)).bind fun n1=>
 iter (jC I M n a0 ba vU Tc Tb n1 (fun z5=>
  some (-1))) n 0
def dS(I:Pr)(M:Md)(n:Nat)(a0:af)(l3:List Int)(n5:Int)(k:(List Int)×Int→Option (List Int))(self:(List Int)×Int→Option (List Int))(st:(List Int)×Int):Option (List Int):=
 match st with
 |(l6,z7)=>
 bif (I.bg z7 n5)then
  (gI a0.ab z7).bind fun x8=>
  (Gv a0.ab 0 (I.wrap .i64 (I.add z7 1))).bind fun l9=>
  (dH I M n l9 (⟨a0.ab⟩:af) l3 z7 x8).bind fun yU=>
  (gN 12 z7).bind fun k11=>
  (gK l6 k11).bind fun v3=>
  (nO l6 k11 yU).bind fun zW=>
  self (zW,(I.wrap .i64 (I.add z7 1)))
 else
  k (l6,z7)
def dT(I:Pr)(M:Md)(n:Nat)(a0:af)(l1:List Int)(self:(List Int)→Option (List Int))(l3:(List Int)):Option (List Int):=
 (some (List.replicate 12 (0:Int))).bind fun l4=>
 (some (au a0.ab)).bind fun n5=>
 iter (dS I M n a0 l3 n5 (fun(WL,Bz)=>
  (lx 12 WL).bind fun u16=>
  (lx 12 l3).bind fun u17=>
  (lx 12 WL).bind fun u18=>
  (lx 12 l3).bind fun u19=>
  (some (decide (WL=l3))).bind fun b20=>
  bif b20 then
   (lx 12 l3).bind fun u21=>
   (lx 12 l1).bind fun Zg=>
   (lx 12 l3).bind fun T5=>
   some l3
  else
   (lx 12 WL).bind fun u24=>
   (lx 12 l3).bind fun u25=>
   self WL)) n (l4,0)
def gV(I:Pr)(M:Md)(n:Nat)(a0:af):Option (List Int):=
 (some (List.replicate 12 (0:Int))).bind fun l1=>
 (some (List.replicate 12 (0:Int))).bind fun l2=>
 iter (dT I M n a0 l1) n l2
def ej(I:Pr)(M:Md)(n:Nat)(a0:af):Option ((List Int)×Int):=
 (dV I M n a0).bind fun y1=>
 bif (I.not (I.aU y1 0))then
 some ([],y1)
 else
 (gV I M n (⟨a0.ab⟩:af)).bind fun y2=>
 (some (List.replicate 12 (0:Int))).bind fun l3=>
 (lx 12 l3).bind fun u4=>
 (some (au a0.ab)).bind fun n5=>
 (Yh 12 n5 y2).bind fun j6=>
 (kE I M n (y2.take j6)).bind fun y7=>
 some (y7,0)
def gX(I:Pr)(M:Md)(n:Nat)(a0:af)(n25:Int)(Aa:ah)(y2:List Int)(k:(List aH)×(List Int)×Int→Option (af×Int))(self:(List aH)×(List Int)×Int→Option (af×Int))(st:(List aH)×(List Int)×Int):Option (af×Int):=
 match st with
 |(H8,nV,Dv)=>
 bif (I.bg Dv n25)then
  (gI Aa.ops Dv).bind fun sx=>
  (
  (ei I M n sx).bind fun y32=>
  bif y32 then
   (il I M n a0 sx.name).bind fun xW=>
   (gN 12 xW.1).bind fun k34=>
   (gK y2 k34).bind fun rz=>
   (gI a0.ab rz).bind fun I5=>
   (
   (bD I M n Aa.head Aa.aN H8 0 nV sx.args).bind fun TO=>
   (some (au TO)).bind fun n40=>
   (DI 8 n40 0).bind fun Tt=>
   (some (nI (M.ln Tt) TO Tt)).bind fun H7=>
   (some (px (M.ln Tt) TO)).bind fun n43=>
   bif (I.aU n40 0)then
    (aQ 56 H8 (⟨sx.kind,I5.name,sx.num,[]⟩:aH)).bind fun Eo=>
    (some (au Eo)).bind fun Tp=>
    some ((I.wrap .i64 (I.sub Tp 1)),Eo)
   else
    (eQ (M.ln Tt) H7).bind fun u46=>
    (aQ 56 H8 (⟨sx.kind,I5.name,sx.num,H7⟩:aH)).bind fun Ml=>
    (some (au Ml)).bind fun Na=>
    some ((I.wrap .i64 (I.sub Na 1)),Ml)).bind fun(Hh,uR)=>
   (aQ 8 nV Hh).bind fun Ss=>
   some (uR,Ss)
  else
   (
   (bD I M n Aa.head Aa.aN H8 0 nV sx.args).bind fun PV=>
   (some (au PV)).bind fun n53=>
   (DI 8 n53 0).bind fun Ts=>
   (some (nI (M.ln Ts) PV Ts)).bind fun Tq=>
   (some (px (M.ln Ts) PV)).bind fun n56=>
   bif (I.aU n53 0)then
    (aQ 56 H8 (⟨sx.kind,sx.name,sx.num,[]⟩:aH)).bind fun WJ=>
    (some (au WJ)).bind fun Wj=>
    some ((I.wrap .i64 (I.sub Wj 1)),WJ)
   else
    (eQ (M.ln Ts) Tq).bind fun u59=>
    (aQ 56 H8 (⟨sx.kind,sx.name,sx.num,Tq⟩:aH)).bind fun H5=>
    (some (au H5)).bind fun n61=>
    some ((I.wrap .i64 (I.sub n61 1)),H5)).bind fun(j50,j51)=>
   (aQ 8 nV j50).bind fun O4=>
   some (j51,O4)).bind fun(j30,WU)=>
  self (j30,WU,(I.wrap .i64 (I.add Dv 1)))
 else
  k (H8,nV,Dv)
def gY(I:Pr)(M:Md)(n:Nat)(a0:af)(gJ:List ai)(OU:Int)(pA:ai)(y2:List Int)(kr:Int)(k:(List ai)×Int→Option (af×Int))(self:(List ai)×Int→Option (af×Int))(st:(List ai)×Int):Option (af×Int):=
 match st with
 |(Sv,ED)=>
 bif (I.bg ED OU)then
  (gI pA.ae ED).bind fun Aa=>
  (some (List.replicate 2 (0:Int))).bind fun Nd=>
  (lx 2 Nd).bind fun T5=>
  (lx 2 ([kr,ED])).bind fun u24=>
  (some (au Aa.ops)).bind fun n25=>
  iter (gX I M n a0 n25 Aa y2 (fun(l63,Sp,Tj)=>
   (gI Sp Aa.result).bind fun x66=>
   (gN 2 0).bind fun k67=>
   (gK ([kr,ED]) k67).bind fun x68=>
   (gN (M.ln gJ) x68).bind fun k69=>
   (gK Sv k69).bind fun x70=>
   (aQ 56 x70.ae (⟨Aa.head,Aa.aN,l63,x66⟩:ah)).bind fun Nb=>
   (nO Sv k69 (⟨x70.name,x70.aG,Nb⟩:ai)).bind fun l72=>
   self (l72,(I.wrap .i64 (I.add ED 1))))) n ([],[],0)
 else
  k (Sv,ED)
def gW(I:Pr)(M:Md)(n:Nat)(gJ:List ai)(l75:List ai)(YK:Int)(y2:List Int)(k:(List ai)×Int→Option (af×Int))(self:(List ai)×Int→Option (af×Int))(st:(List ai)×Int):Option (af×Int):=
 match st with
 |(O2,TL)=>
 bif (I.bg TL YK)then
  (gN (M.ln gJ) TL).bind fun k80=>
  (gK l75 k80).bind fun x81=>
  (gN 12 TL).bind fun k82=>
  (gK y2 k82).bind fun x83=>
  bif (I.aU x83 TL)then
  (aQ 48 O2 x81).bind fun En=>
  self (En,(I.wrap .i64 (I.add TL 1)))
  else
  self (O2,(I.wrap .i64 (I.add TL 1)))
 else
  k (O2,TL)
def gZ(I:Pr)(M:Md)(n:Nat)(a0:af)(gJ:List ai)(DG:Int)(y2:List Int)(k:(List ai)×Int→Option (af×Int))(self:(List ai)×Int→Option (af×Int))(st:(List ai)×Int):Option (af×Int):=
 match st with
 |(vN,kr)=>
 bif (I.bg kr DG)then
  (gI a0.ab kr).bind fun pA=>
  (some (au pA.ae)).bind fun OU=>
  iter (gY I M n a0 gJ OU pA y2 kr (fun(WH,z74)=>
   self (WH,(I.wrap .i64 (I.add kr 1))))) n (vN,0)
 else
  k (vN,kr)
def g0(I:Pr)(M:Md)(n:Nat)(a0:af)(n5:Int)(k:(List ai)×Int→Option (af×Int))(self:(List ai)×Int→Option (af×Int))(st:(List ai)×Int):Option (af×Int):=
 match st with
 |(l8,z9)=>
 bif (I.bg z9 n5)then
  (gI a0.ab z9).bind fun Dz=>
  (aQ 48 l8 (⟨Dz.name,Dz.aG,[]⟩:ai)).bind fun zX=>
  self (zX,(I.wrap .i64 (I.add z9 1)))
 else
  k (l8,z9)
def gd(I:Pr)(M:Md)(n:Nat)(a0:af):Option (af×Int):=
 (dV I M n a0).bind fun y1=>
 bif (I.not (I.aU y1 0))then
 some ((⟨[]⟩:af),y1)
 else
 (gV I M n a0).bind fun y2=>
 (some (List.replicate 12 (0:Int))).bind fun l3=>
 (lx 12 l3).bind fun u4=>
 (some (au a0.ab)).bind fun n5=>
 bif (I.bg 0 n5)then
  (gI a0.ab 0).bind fun x6=>
  (aQ 48 [] (⟨x6.name,x6.aG,[]⟩:ai)).bind fun l7=>
  iter (g0 I M n a0 n5 (fun(gJ,lV)=>
   (some (au a0.ab)).bind fun DG=>
   iter (gZ I M n a0 gJ DG y2 (fun(l75,z76)=>
    (some ((((M.ln gJ):Nat):Int))).bind fun YK=>
    iter (gW I M n gJ l75 YK y2 (fun(GW,Nn)=>
     some ((⟨GW⟩:af),0))) n ([],0))) n (gJ,0))) n (l7,(I.wrap .i64 (I.add 0 1)))
 else
  none
def oS(I:Pr)(M:Md)(n:Nat):Option Bool:=
 (qu I M n).bind fun y1=>
 (sC I M n (⟨y1.ab⟩:af)).bind fun y2=>
 (qu I M n).bind fun y3=>
 (sD I M n (⟨y3.ab⟩:af)).bind fun y4=>
 (qu I M n).bind fun y5=>
 (FD I M n (⟨y5.ab⟩:af)).bind fun y6=>
 (zr I M n).bind fun y7=>
 (uF I M n y7).bind fun y8=>
 (wE I M n y8.1).bind fun y9=>
 (uK I M n).bind fun yU=>
 (ej I M n (⟨yU.ab⟩:af)).bind fun uf=>
 (uK I M n).bind fun Ns=>
 (gd I M n Ns).bind fun ue=>
 (bO I M n 3 (⟨#[97]⟩:ByteArray) 0 []).bind fun Nr=>
 (bO I M n 5 (⟨#[111,110,101,115]⟩:ByteArray) 0 []).bind fun KN=>
 (bO I M n 3 (⟨#[99,111,110,115]⟩:ByteArray) 0 ([0,1])).bind fun KX=>
 (dr I M n 2 ([Nr,KN,KX])).bind fun Nq=>
 (cG I M n (⟨#[111,110,101,115]⟩:ByteArray) 0 Nq).bind fun Np=>
 (bO I M n 1 (⟨#[]⟩:ByteArray) 0 []).bind fun YB=>
 (dr I M n 0 ([YB])).bind fun PW=>
 (cG I M n (⟨#[105,100]⟩:ByteArray) 1 PW).bind fun y21=>
 (bO I M n 4 (⟨#[111,110,101,115]⟩:ByteArray) 0 []).bind fun YA=>
 (bO I M n 5 (⟨#[105,100]⟩:ByteArray) 0 ([0])).bind fun y23=>
 (bO I M n 5 (⟨#[111,110,101,115]⟩:ByteArray) 0 []).bind fun y24=>
 (bO I M n 3 (⟨#[112]⟩:ByteArray) 0 ([1,2])).bind fun y25=>
 (dr I M n 3 ([YA,y23,y24,y25])).bind fun y26=>
 (cG I M n (⟨#[116,119,111]⟩:ByteArray) 0 y26).bind fun y27=>
 (bO I M n 4 (⟨#[111,110,101,115]⟩:ByteArray) 0 []).bind fun Rl=>
 (bO I M n 5 (⟨#[111,110,101,115]⟩:ByteArray) 0 []).bind fun Yz=>
 (bO I M n 3 (⟨#[112]⟩:ByteArray) 0 ([0,1])).bind fun KM=>
 (dr I M n 2 ([Rl,Yz,KM])).bind fun No=>
 (cG I M n (⟨#[116,119,111]⟩:ByteArray) 0 No).bind fun y32=>
 (gN 3 2).bind fun k33=>
 (gK ([Np,y21,y27]) k33).bind fun x34=>
 (nO ([Np,y21,y27]) k33 y32).bind fun WK=>
 (some (WK.take 3)).bind fun w36=>
 (bO I M n 3 (⟨#[97]⟩:ByteArray) 0 []).bind fun y37=>
 (bO I M n 5 (⟨#[111,110,101,115]⟩:ByteArray) 0 []).bind fun y38=>
 (bO I M n 3 (⟨#[99,111,110,115]⟩:ByteArray) 0 ([0,1])).bind fun TO=>
 (dr I M n 2 ([y37,y38,TO])).bind fun Dw=>
 (cG I M n (⟨#[111,110,101,115]⟩:ByteArray) 0 Dw).bind fun Tn=>
 (bO I M n 1 (⟨#[]⟩:ByteArray) 0 []).bind fun y42=>
 (dr I M n 0 ([y42])).bind fun y43=>
 (cG I M n (⟨#[105,100]⟩:ByteArray) 1 y43).bind fun y44=>
 (bO I M n 4 (⟨#[111,110,101,115]⟩:ByteArray) 0 []).bind fun Tm=>
 (bO I M n 5 (⟨#[105,100]⟩:ByteArray) 0 ([0])).bind fun y46=>
 (bO I M n 5 (⟨#[111,110,101,115]⟩:ByteArray) 0 []).bind fun y47=>
 (bO I M n 3 (⟨#[112]⟩:ByteArray) 0 ([1,2])).bind fun y48=>
 (dr I M n 3 ([Tm,y46,y47,y48])).bind fun y49=>
 (cG I M n (⟨#[116,119,111]⟩:ByteArray) 0 y49).bind fun y50=>
 (bO I M n 5 (⟨#[111,110,101,115]⟩:ByteArray) 0 []).bind fun y51=>
 (bO I M n 3 (⟨#[112]⟩:ByteArray) 0 ([0,0])).bind fun PV=>
 (dr I M n 1 ([y51,PV])).bind fun y53=>
 (cG I M n (⟨#[116,119,111]⟩:ByteArray) 0 y53).bind fun Yy=>
 (gK ([Tn,y44,y50]) k33).bind fun x55=>
 (nO ([Tn,y44,y50]) k33 Yy).bind fun Sq=>
 (some (Sq.take 3)).bind fun w57=>
 (zr I M n).bind fun y58=>
 (gI y58.ab 0).bind fun x59=>
 (bO I M n 3 (⟨#[97]⟩:ByteArray) 0 []).bind fun y60=>
 (dr I M n 0 ([y60])).bind fun y61=>
 (cG I M n (⟨#[103]⟩:ByteArray) 0 y61).bind fun y62=>
 (qY I M n ([x59,y62])).bind fun y63=>
 (fN (I.pick (I.pick (I.pick (I.pick (I.pick (I.pick (I.aU y2.2 0) (I.aU y4.2 0) false) (I.aU y6.2.2 0) false) (I.aU y8.2 0) false) (I.aU y9.2 0) false) (I.aU uf.2 0) false) (I.aU ue.2 0) false) true (qu I M n) default).bind fun y64=>
 (fN (I.pick (I.pick (I.pick (I.pick (I.pick (I.pick (I.aU y2.2 0) (I.aU y4.2 0) false) (I.aU y6.2.2 0) false) (I.aU y8.2 0) false) (I.aU y9.2 0) false) (I.aU uf.2 0) false) (I.aU ue.2 0) false) true (oq I M n y2.1 y64) default).bind fun TN=>
 (fN (I.pick (I.pick (I.pick (I.pick (I.pick (I.pick (I.pick (I.aU y2.2 0) (I.aU y4.2 0) false) (I.aU y6.2.2 0) false) (I.aU y8.2 0) false) (I.aU y9.2 0) false) (I.aU uf.2 0) false) (I.aU ue.2 0) false) TN false) true (oq I M n y4.1 (⟨w36⟩:af)) default).bind fun Yx=>
 (fN (I.pick (I.pick (I.pick (I.pick (I.pick (I.pick (I.pick (I.pick (I.aU y2.2 0) (I.aU y4.2 0) false) (I.aU y6.2.2 0) false) (I.aU y8.2 0) false) (I.aU y9.2 0) false) (I.aU uf.2 0) false) (I.aU ue.2 0) false) TN false) Yx false) true (oq I M n y6.1 (⟨w57⟩:af)) default).bind fun Za=>
 (fN (I.pick (I.pick (I.pick (I.pick (I.pick (I.pick (I.pick (I.pick (I.pick (I.pick (I.aU y2.2 0) (I.aU y4.2 0) false) (I.aU y6.2.2 0) false) (I.aU y8.2 0) false) (I.aU y9.2 0) false) (I.aU uf.2 0) false) (I.aU ue.2 0) false) TN false) Yx false) Za false) (I.aU y6.2.1 2) false) true (oq I M n y9.1 y63) default).bind fun y68=>
 (fN (I.pick (I.pick (I.pick (I.pick (I.pick (I.pick (I.pick (I.pick (I.pick (I.pick (I.pick (I.aU y2.2 0) (I.aU y4.2 0) false) (I.aU y6.2.2 0) false) (I.aU y8.2 0) false) (I.aU y9.2 0) false) (I.aU uf.2 0) false) (I.aU ue.2 0) false) TN false) Yx false) Za false) (I.aU y6.2.1 2) false) y68 false) true (da I M n uf.1 ([0,0])) default).bind fun y69=>
 (fN (I.pick (I.pick (I.pick (I.pick (I.pick (I.pick (I.pick (I.pick (I.pick (I.pick (I.pick (I.pick (I.aU y2.2 0) (I.aU y4.2 0) false) (I.aU y6.2.2 0) false) (I.aU y8.2 0) false) (I.aU y9.2 0) false) (I.aU uf.2 0) false) (I.aU ue.2 0) false) TN false) Yx false) Za false) (I.aU y6.2.1 2) false) y68 false) y69 false) true (uK I M n) default).bind fun y70=>
 (fN (I.pick (I.pick (I.pick (I.pick (I.pick (I.pick (I.pick (I.pick (I.pick (I.pick (I.pick (I.pick (I.aU y2.2 0) (I.aU y4.2 0) false) (I.aU y6.2.2 0) false) (I.aU y8.2 0) false) (I.aU y9.2 0) false) (I.aU uf.2 0) false) (I.aU ue.2 0) false) TN false) Yx false) Za false) (I.aU y6.2.1 2) false) y68 false) y69 false) true (gI y70.ab 0) default).bind fun x71=>
 (fN (I.pick (I.pick (I.pick (I.pick (I.pick (I.pick (I.pick (I.pick (I.pick (I.pick (I.pick (I.pick (I.aU y2.2 0) (I.aU y4.2 0) false) (I.aU y6.2.2 0) false) (I.aU y8.2 0) false) (I.aU y9.2 0) false) (I.aU uf.2 0) false) (I.aU ue.2 0) false) TN false) Yx false) Za false) (I.aU y6.2.1 2) false) y68 false) y69 false) true (qY I M n ([x71])) default).bind fun y72=>
 (fN (I.pick (I.pick (I.pick (I.pick (I.pick (I.pick (I.pick (I.pick (I.pick (I.pick (I.pick (I.pick (I.aU y2.2 0) (I.aU y4.2 0) false) (I.aU y6.2.2 0) false) (I.aU y8.2 0) false) (I.aU y9.2 0) false) (I.aU uf.2 0) false) (I.aU ue.2 0) false) TN false) Yx false) Za false) (I.aU y6.2.1 2) false) y68 false) y69 false) true (oq I M n ue.1 y72) default).bind fun y73=>
 some (I.pick (I.pick (I.pick (I.pick (I.pick (I.pick (I.pick (I.pick (I.pick (I.pick (I.pick (I.pick (I.pick (I.aU y2.2 0) (I.aU y4.2 0) false) (I.aU y6.2.2 0) false) (I.aU y8.2 0) false) (I.aU y9.2 0) false) (I.aU uf.2 0) false) (I.aU ue.2 0) false) TN false) Yx false) Za false) (I.aU y6.2.1 2) false) y68 false) y69 false) y73 false)
def fg(I:Pr)(M:Md)(n:Nat)(a0:Int)(a1:Int)(a2:Int):Option Bool:=
 some (I.pick (I.bg a0 a1) true (I.bg a2 a0))
def BK(I:Pr)(M:Md)(n:Nat)(a0:Int)(a1:Int)(a2:Int):Option Bool:=
 some (I.pick (I.bg a0 a1) true (I.bg a2 a0))
def oB(I:Pr)(M:Md)(n:Nat)(a0:ByteArray)(k:Int→Option Bool)(self:Int→Option Bool)(z3:Int):Option Bool:=
 (some (lF a0)).bind fun n4=>
 bif (I.bg z3 n4)then
  (gB a0 z3).bind fun x5=>
  (fN (I.bg x5 97) false (gB a0 z3) default).bind fun x6=>
  bif (I.pick (I.bg x5 97) true (I.bg 122 x6))then
  some false
  else
  self (I.wrap .i64 (I.add z3 1))
 else
  k z3
def mu(I:Pr)(M:Md)(n:Nat)(a0:ByteArray):Option Bool:=
 (some (lF a0)).bind fun n1=>
 (BK I M n n1 1 8).bind fun y2=>
 bif y2 then
 some false
 else
 iter (oB I M n a0 (fun z7=>
  some true)) n 0
def fB(I:Pr)(M:Md)(n:Nat)(a0:ai)(zU:Int)(k:Int→Option Int)(self:Int→Option Int)(Dv:Int):Option Int:=
 bif (I.bg Dv zU)then
  (gI a0.ae zU).bind fun sx=>
  (gI a0.ae Dv).bind fun fO=>
  (fN (I.seq sx.head fO.head) true (gI a0.ae zU) default).bind fun x31=>
  (fN (I.seq sx.head fO.head) true (gI a0.ae Dv) default).bind fun Zc=>
  bif (I.pick (I.seq sx.head fO.head) (I.aU x31.aN Zc.aN) false)then
  some 5
  else
  self (I.wrap .i64 (I.add Dv 1))
 else
  k Dv
def dO(I:Pr)(M:Md)(n:Nat)(a0:ai)(k:Int→Option Int)(self:Int→Option Int)(zU:Int):Option Int:=
 (some (au a0.ae)).bind fun n27=>
 bif (I.bg zU n27)then
  iter (fB I M n a0 zU (fun z33=>
   self (I.wrap .i64 (I.add zU 1)))) n 0
 else
  k zU
def fC(I:Pr)(M:Md)(n:Nat)(a0:ai)(k:Int→Option Int)(self:Int→Option Int)(D8:Int):Option Int:=
 (some (au a0.ae)).bind fun n23=>
 bif (I.bg D8 n23)then
  (gI a0.ae D8).bind fun x24=>
  bif (I.pick (I.pick (I.seq x24.head (⟨#[]⟩:ByteArray)) (I.pick (I.bg 1 n23) true (I.not (I.aU x24.aN 0))) false) true (I.pick (I.not (I.seq x24.head (⟨#[]⟩:ByteArray))) (I.aU a0.aG 0) false))then
  some 7
  else
  self (I.wrap .i64 (I.add D8 1))
 else
  k D8
def fD(I:Pr)(M:Md)(n:Nat)(a0:ai)(k:Int→Option Int)(self:Int→Option Int)(kr:Int):Option Int:=
 (some (au a0.ae)).bind fun n17=>
 bif (I.bg kr n17)then
  (gI a0.ae kr).bind fun yo=>
  (fN (I.not (I.seq yo.head (⟨#[]⟩:ByteArray))) true (gI a0.ae kr) default).bind fun KP=>
  (fN (I.not (I.seq yo.head (⟨#[]⟩:ByteArray))) true (mu I M n KP.head) default).bind fun PW=>
  bif (I.pick (I.not (I.seq yo.head (⟨#[]⟩:ByteArray))) (I.not PW) false)then
  some 4
  else
  self (I.wrap .i64 (I.add kr 1))
 else
  k kr
def fE(I:Pr)(M:Md)(n:Nat)(a0:ai)(k:Int→Option Int)(self:Int→Option Int)(xV:Int):Option Int:=
 (some (au a0.ae)).bind fun yG=>
 bif (I.bg xV yG)then
  (gI a0.ae xV).bind fun v3=>
  (fg I M n v3.aN 0 4).bind fun ue=>
  bif ue then
  some 3
  else
  self (I.wrap .i64 (I.add xV 1))
 else
  k xV
def fF(I:Pr)(M:Md)(n:Nat)(a0:ai)(k:Int→Option Int)(self:Int→Option Int)(z3:Int):Option Int:=
 (some (au a0.ae)).bind fun n4=>
 bif (I.bg z3 n4)then
  (gI a0.ae z3).bind fun x5=>
  (some (au x5.ops)).bind fun n6=>
  (fg I M n n6 1 60).bind fun y7=>
  bif y7 then
  some 2
  else
  self (I.wrap .i64 (I.add z3 1))
 else
  k z3
def kJ(I:Pr)(M:Md)(n:Nat)(a0:ai):Option Int:=
 (some (au a0.ae)).bind fun n1=>
 (fg I M n n1 1 6).bind fun y2=>
 bif y2 then
 some 2
 else
 iter (fF I M n a0 (fun z8=>
  (fg I M n a0.aG 0 4).bind fun y9=>
  bif y9 then
   some 3
  else
   iter (fE I M n a0 (fun fc=>
    (mu I M n a0.name).bind fun KN=>
    bif (I.not KN)then
    some 4
    else
    iter (fD I M n a0 (fun z21=>
     iter (fC I M n a0 (fun z25=>
      iter (dO I M n a0 (fun vV=>
       some 0)) n 0)) n 0)) n 0)) n 0)) n 0
def An(I:Pr)(M:Md)(n:Nat)(a0:af)(a1:ByteArray)(k:Int→Option Int)(self:Int→Option Int)(z1:Int):Option Int:=
 (some (au a0.ab)).bind fun n2=>
 bif (I.bg z1 n2)then
  (gI a0.ab z1).bind fun x3=>
  bif (I.seq x3.name a1)then
  some z1
  else
  self (I.wrap .i64 (I.add z1 1))
 else
  k z1
def dQ(I:Pr)(M:Md)(n:Nat)(a0:af)(a1:ByteArray):Option Int:=
 iter (An I M n a0 a1 (fun z4=>
  some (-1))) n 0
def kK(I:Pr)(M:Md)(n:Nat)(a0:List aH)(l1:List Bool)(z2:Int)(k:Bool×Int→Option (List Bool))(self:Bool×Int→Option (List Bool))(st:Bool×Int):Option (List Bool):=
 match st with
 |(z5,z6)=>
 (gI a0 z2).bind fun x7=>
 (some (au x7.args)).bind fun n8=>
 bif (I.bg z6 n8)then
  (fN z5 false (gI a0 z2) default).bind fun x9=>
  (fN z5 false (fN (I.aU x9.kind 3) true (gI a0 z2) default) default).bind fun Dz=>
  (fN z5 false (fN (I.aU x9.kind 3) true (gI Dz.args z6) default) default).bind fun Ac=>
  (fN z5 false (fN (I.aU x9.kind 3) true (gI l1 Ac) default) default).bind fun v3=>
  self ((I.pick z5 true (I.pick (I.aU x9.kind 3) v3 false)),(I.wrap .i64 (I.add z6 1)))
 else
  k (z5,z6)
def mV(I:Pr)(M:Md)(n:Nat)(a0:List aH)(k:(List Bool)×Int→Option (List Bool))(self:(List Bool)×Int→Option (List Bool))(st:(List Bool)×Int):Option (List Bool):=
 match st with
 |(l1,z2)=>
 (some (au a0)).bind fun n3=>
 bif (I.bg z2 n3)then
  (gI a0 z2).bind fun x4=>
  iter (kK I M n a0 l1 z2 (fun(lV,fc)=>
   (aQ 1 l1 lV).bind fun vN=>
   self (vN,(I.wrap .i64 (I.add z2 1))))) n ((I.aU x4.kind 5),0)
 else
  k (l1,z2)
def uy(I:Pr)(M:Md)(n:Nat)(a0:List aH):Option (List Bool):=
 iter (mV I M n a0 (fun(l16,GS)=>
  some l16)) n ([],0)
def jc(I:Pr)(M:Md)(n:Nat)(x1:aH)(KX:List Bool)(k:Int→Option Int)(self:Int→Option Int)(GS:Int):Option Int:=
 (some (au x1.args)).bind fun OU=>
 bif (I.bg GS OU)then
  (gI x1.args GS).bind fun KP=>
  (gI KX KP).bind fun eR=>
  bif eR then
  some 7
  else
  self (I.wrap .i64 (I.add GS 1))
 else
  k GS
def jd(I:Pr)(M:Md)(n:Nat)(a3:Int)(x1:aH)(k:Int→Option Int)(self:Int→Option Int)(z7:Int):Option Int:=
 (some (au x1.args)).bind fun n8=>
 bif (I.bg z7 n8)then
  (gI x1.args z7).bind fun x9=>
  (fg I M n x9 0 (I.wrap .i64 (I.sub a3 1))).bind fun yU=>
  bif yU then
  some 1
  else
  self (I.wrap .i64 (I.add z7 1))
 else
  k z7
def lI(I:Pr)(M:Md)(n:Nat)(a0:af)(a1:ai)(a2:ah)(a3:Int):Option Int:=
 (gI a2.ops a3).bind fun x1=>
 (fg I M n x1.kind 1 5).bind fun y2=>
 bif y2 then
 some 3
 else
 (fN (I.pick (I.uT x1.kind 2) (I.not (I.seq x1.name (⟨#[]⟩:ByteArray))) false) false (fN (I.bg 2 x1.kind) true (mu I M n x1.name) default) default).bind fun y3=>
 bif (I.pick (I.pick (I.uT x1.kind 2) (I.not (I.seq x1.name (⟨#[]⟩:ByteArray))) false) true (I.pick (I.bg 2 x1.kind) (I.not y3) false))then
  some 4
 else
  (fN (I.aU x1.kind 1) true (fg I M n x1.num 0 (I.wrap .i64 (I.sub a1.aG 1))) default).bind fun y4=>
  (fN (I.pick (I.aU x1.kind 1) y4 false) false (fN (I.aU x1.kind 2) true (fg I M n x1.num 0 (I.wrap .i64 (I.sub a2.aN 1))) default) default).bind fun y5=>
  bif (I.pick (I.pick (I.pick (I.aU x1.kind 1) y4 false) true (I.pick (I.aU x1.kind 2) y5 false)) true (I.pick (I.bg 2 x1.kind) (I.not (I.aU x1.num 0)) false))then
  some 1
  else
  (some (au x1.args)).bind fun n6=>
  bif (I.pick (I.pick (I.uT x1.kind 2) (I.bg 0 n6) false) true (I.pick (I.aU x1.kind 3) (I.bg 4 n6) false))then
   some 2
  else
   iter (jd I M n a3 x1 (fun Yw=>
    bif (I.uT x1.kind 3)then
    some 0
    else
    (dQ I M n a0 x1.name).bind fun Ns=>
    bif (I.bg Ns 0)then
     some 1
    else
     (some (au x1.args)).bind fun n13=>
     (gI a0.ab Ns).bind fun yp=>
     bif (I.not (I.aU n13 yp.aG))then
     some 7
     else
     (Gv a2.ops 0 a3).bind fun vN=>
     (uy I M n vN).bind fun KX=>
     iter (jc I M n x1 KX (fun z21=>
      some 0)) n 0)) n 0
def lJ(I:Pr)(M:Md)(n:Nat)(a0:af)(yo:ah)(lV:Int)(k:Int→Option Int)(self:Int→Option Int)(fM:Int):Option Int:=
 (some (au yo.ops)).bind fun n20=>
 bif (I.bg fM n20)then
  (gI a0.ab lV).bind fun Aa=>
  (lI I M n (⟨a0.ab⟩:af) Aa yo fM).bind fun YA=>
  bif (I.not (I.aU YA 0))then
  some YA
  else
  self (I.wrap .i64 (I.add fM 1))
 else
  k fM
def lK(I:Pr)(M:Md)(n:Nat)(a0:af)(lV:Int)(k:Int→Option Int)(self:Int→Option Int)(Bz:Int):Option Int:=
 (gI a0.ab lV).bind fun x16=>
 (some (au x16.ae)).bind fun n17=>
 bif (I.bg Bz n17)then
  (gI x16.ae Bz).bind fun yo=>
  iter (lJ I M n a0 yo lV (fun z23=>
   (some (au yo.ops)).bind fun n24=>
   (fg I M n yo.result 0 (I.wrap .i64 (I.sub n24 1))).bind fun y25=>
   bif y25 then
   some 1
   else
   self (I.wrap .i64 (I.add Bz 1)))) n 0
 else
  k Bz
def lL(I:Pr)(M:Md)(n:Nat)(a0:af)(k:Int→Option Int)(self:Int→Option Int)(lV:Int):Option Int:=
 (some (au a0.ab)).bind fun DG=>
 bif (I.bg lV DG)then
  iter (lK I M n a0 lV (fun zU=>
   self (I.wrap .i64 (I.add lV 1)))) n 0
 else
  k lV
def lM(I:Pr)(M:Md)(n:Nat)(a0:af)(k:Int→Option Int)(self:Int→Option Int)(z8:Int):Option Int:=
 (some (au a0.ab)).bind fun n9=>
 bif (I.bg z8 n9)then
  (gI a0.ab z8).bind fun Dz=>
  (dQ I M n a0 Dz.name).bind fun uf=>
  bif (I.bg uf z8)then
  some 5
  else
  self (I.wrap .i64 (I.add z8 1))
 else
  k z8
def lN(I:Pr)(M:Md)(n:Nat)(a0:af)(k:Int→Option Int)(self:Int→Option Int)(z3:Int):Option Int:=
 (some (au a0.ab)).bind fun n4=>
 bif (I.bg z3 n4)then
  (gI a0.ab z3).bind fun x5=>
  (kJ I M n x5).bind fun y6=>
  bif (I.not (I.aU y6 0))then
  some y6
  else
  self (I.wrap .i64 (I.add z3 1))
 else
  k z3
def rW(I:Pr)(M:Md)(n:Nat)(a0:af):Option Int:=
 (some (au a0.ab)).bind fun n1=>
 (fg I M n n1 1 12).bind fun y2=>
 bif y2 then
 some 2
 else
 iter (lN I M n a0 (fun z7=>
  iter (lM I M n a0 (fun yT=>
   iter (lL I M n a0 (fun TM=>
    some 0)) n 0)) n 0)) n 0
def ql(I:Pr)(M:Md)(n:Nat)(a0:aH)(a1:aH)(k:Int→Option Bool)(self:Int→Option Bool)(z3:Int):Option Bool:=
 (some (au a0.args)).bind fun n4=>
 bif (I.bg z3 n4)then
  (gI a0.args z3).bind fun x5=>
  (gI a1.args z3).bind fun x6=>
  bif (I.not (I.aU x5 x6))then
  some false
  else
  self (I.wrap .i64 (I.add z3 1))
 else
  k z3
def j5(I:Pr)(M:Md)(n:Nat)(a0:aH)(a1:aH):Option Bool:=
 (some (au a0.args)).bind fun n1=>
 (some (au a1.args)).bind fun n2=>
 bif (I.pick (I.pick (I.pick (I.not (I.aU a0.kind a1.kind)) true (I.not (I.seq a0.name a1.name))) true (I.not (I.aU a0.num a1.num))) true (I.not (I.aU n1 n2)))then
 some false
 else
 iter (ql I M n a0 a1 (fun z7=>
  some true)) n 0
def eh(I:Pr)(M:Md)(n:Nat)(a0:aH):Option Bool:=
 some (I.pick (I.aU a0.kind 4) true (I.aU a0.kind 5))
def iE(I:Pr)(M:Md)(n:Nat)(x5:aH)(x6:aH)(k:Int→Option Bool)(self:Int→Option Bool)(z9:Int):Option Bool:=
 (some (au x5.args)).bind fun BW=>
 bif (I.bg z9 BW)then
  (gI x5.args z9).bind fun Ac=>
  (gI x6.args z9).bind fun v3=>
  bif (I.not (I.aU Ac v3))then
  some false
  else
  self (I.wrap .i64 (I.add z9 1))
 else
  k z9
def iF(I:Pr)(M:Md)(n:Nat)(a0:ah)(a1:ah)(k:Int→Option Bool)(self:Int→Option Bool)(z3:Int):Option Bool:=
 (some (au a0.ops)).bind fun n4=>
 bif (I.bg z3 n4)then
  (gI a0.ops z3).bind fun x5=>
  (gI a1.ops z3).bind fun x6=>
  (some (au x5.args)).bind fun n7=>
  (some (au x6.args)).bind fun n8=>
  bif (I.pick (I.pick (I.pick (I.not (I.aU x5.kind x6.kind)) true (I.not (I.seq x5.name x6.name))) true (I.not (I.aU x5.num x6.num))) true (I.not (I.aU n7 n8)))then
  some false
  else
  iter (iE I M n x5 x6 (fun lV=>
   self (I.wrap .i64 (I.add z3 1)))) n 0
 else
  k z3
def kI(I:Pr)(M:Md)(n:Nat)(a0:ah)(a1:ah):Option Bool:=
 (some (au a0.ops)).bind fun n1=>
 (some (au a1.ops)).bind fun n2=>
 bif (I.pick (I.pick (I.pick (I.not (I.seq a0.head a1.head)) true (I.not (I.aU a0.aN a1.aN))) true (I.not (I.aU a0.result a1.result))) true (I.not (I.aU n1 n2)))then
 some false
 else
 iter (iF I M n a0 a1 (fun fc=>
  some true)) n 0
def qn(I:Pr)(M:Md)(n:Nat)(x5:ai)(x6:ai)(k:Int→Option Bool)(self:Int→Option Bool)(z9:Int):Option Bool:=
 (some (au x5.ae)).bind fun BW=>
 bif (I.bg z9 BW)then
  (gI x5.ae z9).bind fun Ac=>
  (gI x6.ae z9).bind fun v3=>
  (kI I M n Ac v3).bind fun ue=>
  bif (I.not ue)then
  some false
  else
  self (I.wrap .i64 (I.add z9 1))
 else
  k z9
def qo(I:Pr)(M:Md)(n:Nat)(a0:af)(a1:af)(k:Int→Option Bool)(self:Int→Option Bool)(z3:Int):Option Bool:=
 (some (au a0.ab)).bind fun n4=>
 bif (I.bg z3 n4)then
  (gI a0.ab z3).bind fun x5=>
  (gI a1.ab z3).bind fun x6=>
  (some (au x5.ae)).bind fun n7=>
  (some (au x6.ae)).bind fun n8=>
  bif (I.pick (I.pick (I.not (I.seq x5.name x6.name)) true (I.not (I.aU x5.aG x6.aG))) true (I.not (I.aU n7 n8)))then
  some false
  else
  iter (qn I M n x5 x6 (fun fc=>
   self (I.wrap .i64 (I.add z3 1)))) n 0
 else
  k z3
def dP(I:Pr)(M:Md)(n:Nat)(a0:af)(a1:af):Option Bool:=
 (some (au a0.ab)).bind fun n1=>
 (some (au a1.ab)).bind fun n2=>
 bif (I.not (I.aU n1 n2))then
 some false
 else
 iter (qo I M n a0 a1 (fun Bz=>
  some true)) n 0
def qm(I:Pr)(M:Md)(n:Nat)(a0:af)(a1:List (List Bool))(a2:ah)(a3:ah)(k:Int→Option Bool)(self:Int→Option Bool)(z3:Int):Option Bool:=
 (some (au a2.ops)).bind fun n4=>
 bif (I.bg z3 n4)then
  (gI a2.ops z3).bind fun x5=>
  (gI a3.ops z3).bind fun x6=>
  (eh I M n x5).bind fun y7=>
  (fN y7 true (eh I M n x6) default).bind fun y8=>
  bif (I.pick (I.pick y7 y8 false) (I.aU x5.kind x6.kind) false)then
  (dQ I M n a0 x5.name).bind fun y9=>
  (gI a1 y9).bind fun Dz=>
  (dQ I M n a0 x6.name).bind fun uf=>
  (gI Dz uf).bind fun v3=>
  bif (I.not v3)then
   some false
  else
   (j5 I M n (⟨x5.kind,(⟨#[]⟩:ByteArray),x5.num,x5.args⟩:aH) (⟨x6.kind,(⟨#[]⟩:ByteArray),x6.num,x6.args⟩:aH)).bind fun ue=>
   bif (I.not ue)then
   some false
   else
   self (I.wrap .i64 (I.add z3 1))
  else
  (j5 I M n x5 x6).bind fun Nr=>
  bif (I.not Nr)then
   some false
  else
   self (I.wrap .i64 (I.add z3 1))
 else
  k z3
def ux(I:Pr)(M:Md)(n:Nat)(a0:af)(a1:List (List Bool))(a2:ah)(a3:ah):Option Bool:=
 (some (au a2.ops)).bind fun n1=>
 (some (au a3.ops)).bind fun n2=>
 bif (I.pick (I.pick (I.pick (I.not (I.seq a2.head a3.head)) true (I.not (I.aU a2.aN a3.aN))) true (I.not (I.aU a2.result a3.result))) true (I.not (I.aU n1 n2)))then
 some false
 else
 iter (qm I M n a0 a1 a2 a3 (fun Bz=>
  some true)) n 0
def eL(I:Pr)(M:Md)(n:Nat)(a0:af)(l2:List (List Bool))(n1:Int)(z4:Int)(k:(List (List Bool))×Int→Option (List Int))(self:(List (List Bool))×Int→Option (List Int))(st:(List (List Bool))×Int):Option (List Int):=
 match st with
 |(l9,xV)=>
 bif (I.bg xV n1)then
  (gN (M.ln l2) z4).bind fun k11=>
  (sj l9 k11).bind fun gJ=>
  (gI a0.ab z4).bind fun GU=>
  (gI a0.ab xV).bind fun yp=>
  (fN (I.aU GU.aG yp.aG) true (gI a0.ab z4) default).bind fun vw=>
  (some (au vw.ae)).bind fun CW=>
  (fN (I.aU GU.aG yp.aG) true (gI a0.ab xV) default).bind fun pA=>
  (some (au pA.ae)).bind fun OU=>
  (gN (M.ln gJ) xV).bind fun k19=>
  (gsM l9 k11 k19 (I.pick (I.aU GU.aG yp.aG) (I.aU CW OU) false)).bind fun Qw=>
  self (Qw,(I.wrap .i64 (I.add xV 1)))
 else
  k (l9,xV)
def cn(I:Pr)(M:Md)(n:Nat)(a0:af)(l2:List (List Bool))(rv:Int)(G0:Int)(k:(List (List Bool))×Int×Bool→Option (List Int))(self:(List (List Bool))×Int×Bool→Option (List Int))(st:(List (List Bool))×Int×Bool):Option (List Int):=
 match st with
 |(vX,vV,z35)=>
 (gN (M.ln l2) rv).bind fun k36=>
 (sj vX k36).bind fun KR=>
 (gN (M.ln KR) G0).bind fun k38=>
 (ggM vX k36 k38).bind fun x39=>
 (fN x39 true (gI a0.ab rv) default).bind fun x40=>
 (some (au x40.ae)).bind fun YL=>
 bif (I.pick x39 (I.bg vV YL) false)then
  (gI a0.ab rv).bind fun x42=>
  (gI x42.ae vV).bind fun x43=>
  (gI a0.ab G0).bind fun KO=>
  (gI KO.ae vV).bind fun x45=>
  (eQ (M.ln l2) vX).bind fun u46=>
  (ux I M n a0 vX x43 x45).bind fun y47=>
  bif (I.not y47)then
  (gsM vX k36 k38 false).bind fun YQ=>
  self (YQ,(I.wrap .i64 (I.add vV 1)),true)
  else
  self (vX,(I.wrap .i64 (I.add vV 1)),z35)
 else
  k (vX,vV,z35)
def dz(I:Pr)(M:Md)(n:Nat)(a0:af)(l2:List (List Bool))(n1:Int)(rv:Int)(k:(List (List Bool))×Bool×Int→Option (List Int))(self:(List (List Bool))×Bool×Int→Option (List Int))(st:(List (List Bool))×Bool×Int):Option (List Int):=
 match st with
 |(Mm,z31,G0)=>
 bif (I.bg G0 n1)then
  iter (cn I M n a0 l2 rv G0 (fun(Ss,z50,Rj)=>
   self (Ss,Rj,(I.wrap .i64 (I.add G0 1))))) n (Mm,0,z31)
 else
  k (Mm,z31,G0)
def dA(I:Pr)(M:Md)(n:Nat)(a0:af)(l2:List (List Bool))(n1:Int)(k:(List (List Bool))×Bool×Int→Option (List Int))(self:(List (List Bool))×Bool×Int→Option (List Int))(st:(List (List Bool))×Bool×Int):Option (List Int):=
 match st with
 |(nV,Dv,rv)=>
 bif (I.bg rv n1)then
  iter (dz I M n a0 l2 n1 rv (fun(YO,z53,z54)=>
   self (YO,z53,(I.wrap .i64 (I.add rv 1))))) n (nV,Dv,0)
 else
  k (nV,Dv,rv)
def eJ(I:Pr)(M:Md)(n:Nat)(l2:List (List Bool))(O5:List (List Bool))(Y9:Int)(k:Int→Option (List Int))(self:Int→Option (List Int))(z62:Int):Option (List Int):=
 (gN (M.ln l2) Y9).bind fun k63=>
 (sj O5 k63).bind fun Sp=>
 (gN (M.ln Sp) z62).bind fun k65=>
 (ggM O5 k63 k65).bind fun x66=>
 bif (I.not x66)then
  self (I.wrap .i64 (I.add z62 1))
 else
  k z62
def cH(I:Pr)(M:Md)(n:Nat)(l2:List (List Bool))(O5:List (List Bool))(n1:Int)(k:(List Int)×Int→Option (List Int))(self:(List Int)×Int→Option (List Int))(st:(List Int)×Int):Option (List Int):=
 match st with
 |(H5,Y9)=>
 bif (I.bg Y9 n1)then
  iter (eJ I M n l2 O5 Y9 (fun z67=>
   (aQ 8 H5 z67).bind fun YM=>
   self (YM,(I.wrap .i64 (I.add Y9 1))))) n 0
 else
  k (H5,Y9)
def eK(I:Pr)(M:Md)(n:Nat)(a0:af)(l2:List (List Bool))(n1:Int)(k:(List (List Bool))×Bool→Option (List Int))(self:(List (List Bool))×Bool→Option (List Int))(st:(List (List Bool))×Bool):Option (List Int):=
 match st with
 |(Ep,zU)=>
 bif zU then
  iter (dA I M n a0 l2 n1 (fun(Tq,z56,z57)=>
   self (Tq,z56))) n (Ep,false,0)
 else
  k (Ep,false)
def dB(I:Pr)(M:Md)(n:Nat)(a0:af)(l2:List (List Bool))(n1:Int)(k:(List (List Bool))×Int→Option (List Int))(self:(List (List Bool))×Int→Option (List Int))(st:(List (List Bool))×Int):Option (List Int):=
 match st with
 |(l3,z4)=>
 bif (I.bg z4 n1)then
  (DI 1 n1 false).bind fun l5=>
  (gN (M.ln l2) z4).bind fun k6=>
  (eQ (M.ln l5) l5).bind fun u7=>
  (Ge l3 k6 l5).bind fun l8=>
  iter (eL I M n a0 l2 n1 z4 (fun(vE,D8)=>
   self (vE,(I.wrap .i64 (I.add z4 1))))) n (l8,0)
 else
  k (l3,z4)
def jq(I:Pr)(M:Md)(n:Nat)(a0:af):Option (List Int):=
 (some (au a0.ab)).bind fun n1=>
 (DI 24 n1 ([]:List Bool)).bind fun l2=>
 iter (dB I M n a0 l2 n1 (fun(vY,Tl)=>
  iter (eK I M n a0 l2 n1 (fun(O5,z59)=>
   iter (cH I M n l2 O5 n1 (fun(l69,z70)=>
    some l69)) n ([],0))) n (vY,true))) n (l2,0)
def jn(I:Pr)(M:Md)(n:Nat)(a0:af)(Ac:ah)(y1:List Int)(k:(List aH)×Int→Option af)(self:(List aH)×Int→Option af)(st:(List aH)×Int):Option af:=
 match st with
 |(gJ,lV)=>
 (some (au Ac.ops)).bind fun DG=>
 bif (I.bg lV DG)then
  (gI Ac.ops lV).bind fun vw=>
  (eh I M n vw).bind fun KX=>
  bif KX then
  (dQ I M n a0 vw.name).bind fun Nq=>
  (gI y1 Nq).bind fun yo=>
  (gI a0.ab yo).bind fun KP=>
  (aQ 56 gJ (⟨vw.kind,KP.name,vw.num,vw.args⟩:aH)).bind fun Qw=>
  self (Qw,(I.wrap .i64 (I.add lV 1)))
  else
  (aQ 56 gJ vw).bind fun vE=>
  self (vE,(I.wrap .i64 (I.add lV 1)))
 else
  k (gJ,lV)
def jo(I:Pr)(M:Md)(n:Nat)(a0:af)(y1:List Int)(z3:Int)(k:(List ah)×Int→Option af)(self:(List ah)×Int→Option af)(st:(List ah)×Int):Option af:=
 match st with
 |(l7,z8)=>
 (gI a0.ab z3).bind fun x9=>
 (some (au x9.ae)).bind fun BW=>
 bif (I.bg z8 BW)then
  (gI x9.ae z8).bind fun Ac=>
  iter (jn I M n a0 Ac y1 (fun(Nd,z23)=>
   (aQ 56 l7 (⟨Ac.head,Ac.aN,Nd,Ac.result⟩:ah)).bind fun H9=>
   self (H9,(I.wrap .i64 (I.add z8 1))))) n ([],0)
 else
  k (l7,z8)
def lH(I:Pr)(M:Md)(n:Nat)(a0:af)(y1:List Int)(k:(List ai)×Int→Option af)(self:(List ai)×Int→Option af)(st:(List ai)×Int):Option af:=
 match st with
 |(l2,z3)=>
 (some (au a0.ab)).bind fun n4=>
 bif (I.bg z3 n4)then
  (gI y1 z3).bind fun x5=>
  bif (I.not (I.aU x5 z3))then
  self (l2,(I.wrap .i64 (I.add z3 1)))
  else
  (gI a0.ab z3).bind fun x6=>
  iter (jo I M n a0 y1 z3 (fun(Ep,zU)=>
   (aQ 48 l2 (⟨x6.name,x6.aG,Ep⟩:ai)).bind fun nV=>
   self (nV,(I.wrap .i64 (I.add z3 1))))) n ([],0)
 else
  k (l2,z3)
def rV(I:Pr)(M:Md)(n:Nat)(a0:af):Option af:=
 (jq I M n a0).bind fun y1=>
 iter (lH I M n a0 y1 (fun(ud,rv)=>
  some (⟨ud⟩:af))) n ([],0)
def oK(I:Pr)(M:Md)(n:Nat)(a0:List Int)(a1:Int)(k:Int→Option Bool)(self:Int→Option Bool)(z1:Int):Option Bool:=
 (some (au a0)).bind fun n2=>
 bif (I.bg z1 n2)then
  (gI a0 z1).bind fun x3=>
  bif (I.aU x3 a1)then
  some true
  else
  self (I.wrap .i64 (I.add z1 1))
 else
  k z1
def td(I:Pr)(M:Md)(n:Nat)(a0:List Int)(a1:Int):Option Bool:=
 iter (oK I M n a0 a1 (fun z4=>
  some false)) n 0
def kG(I:Pr)(M:Md)(n:Nat)(a0:af)(x6:ai)(z7:Int)(k:Int×(List Int)→Option (af×Int))(self:Int×(List Int)→Option (af×Int))(st:Int×(List Int)):Option (af×Int):=
 match st with
 |(xV,zX)=>
 (gI x6.ae z7).bind fun v3=>
 (some (au v3.ops)).bind fun n13=>
 bif (I.bg xV n13)then
  (gI v3.ops xV).bind fun yp=>
  (eh I M n yp).bind fun KN=>
  (fN KN true (dQ I M n (⟨a0.ab⟩:af) yp.name) default).bind fun KX=>
  (fN KN true (td I M n zX KX) default).bind fun Nq=>
  bif (I.pick KN (I.not Nq) false)then
  (dQ I M n (⟨a0.ab⟩:af) yp.name).bind fun Np=>
  (aQ 8 zX Np).bind fun Sv=>
  self ((I.wrap .i64 (I.add xV 1)),Sv)
  else
  self ((I.wrap .i64 (I.add xV 1)),zX)
 else
  k (xV,zX)
def kH(I:Pr)(M:Md)(n:Nat)(a0:af)(x6:ai)(k:Int×(List Int)→Option (af×Int))(self:Int×(List Int)→Option (af×Int))(st:Int×(List Int)):Option (af×Int):=
 match st with
 |(z7,l8)=>
 (some (au x6.ae)).bind fun n9=>
 bif (I.bg z7 n9)then
  iter (kG I M n a0 x6 z7 (fun(ED,vE)=>
   self ((I.wrap .i64 (I.add z7 1)),vE))) n (0,l8)
 else
  k (z7,l8)
def iD(I:Pr)(M:Md)(n:Nat)(a0:af)(H9:List Int)(k:(List ai)×Int→Option (af×Int))(self:(List ai)×Int→Option (af×Int))(st:(List ai)×Int):Option (af×Int):=
 match st with
 |(H8,TM)=>
 (some (au a0.ab)).bind fun n28=>
 bif (I.bg TM n28)then
  (td I M n H9 TM).bind fun Yz=>
  bif Yz then
  (gI a0.ab TM).bind fun fO=>
  (aQ 48 H8 fO).bind fun Su=>
  self (Su,(I.wrap .i64 (I.add TM 1)))
  else
  self (H8,(I.wrap .i64 (I.add TM 1)))
 else
  k (H8,TM)
def dX(I:Pr)(M:Md)(n:Nat)(a0:af)(k:(List Int)×Int→Option (af×Int))(self:(List Int)×Int→Option (af×Int))(st:(List Int)×Int):Option (af×Int):=
 match st with
 |(l2,z3)=>
 (some (au l2)).bind fun n4=>
 bif (I.bg z3 n4)then
  (gI l2 z3).bind fun x5=>
  (gI a0.ab x5).bind fun x6=>
  iter (kH I M n a0 x6 (fun(D8,vY)=>
   self (vY,(I.wrap .i64 (I.add z3 1))))) n (0,l2)
 else
  k (l2,z3)
def nZ(I:Pr)(M:Md)(n:Nat)(a0:af)(a1:ByteArray):Option (af×Int):=
 (dQ I M n a0 a1).bind fun y1=>
 bif (I.bg y1 0)then
 some ((⟨[]⟩:af),1)
 else
 iter (dX I M n a0 (fun(H9,z25)=>
  iter (iD I M n a0 H9 (fun(zV,z33)=>
   some ((⟨zV⟩:af),0))) n ([],0))) n ([y1],0)
def js(I:Pr)(M:Md)(n:Nat)(a0:af)(n20:Int)(pA:ah)(yT:Int)(kr:Int)(k:(List Int)×Int→Option (af×Int))(self:(List Int)×Int→Option (af×Int))(st:(List Int)×Int):Option (af×Int):=
 match st with
 |(vE,D8)=>
 bif (I.bg D8 n20)then
  (gI pA.ops D8).bind fun x23=>
  (gN 2 0).bind fun k24=>
  (gK ([yT,kr]) k24).bind fun z0=>
  (gN 12 z0).bind fun k26=>
  (gK vE k26).bind fun qy=>
  (fN (I.aU qy 1) true (ei I M n x23) default).bind fun Rl=>
  bif (I.pick (I.aU qy 1) Rl false)then
  (il I M n a0 x23.name).bind fun Yz=>
  (gN 12 Yz.1).bind fun k30=>
  (gK vE k30).bind fun x31=>
  (nO vE k30 1).bind fun zV=>
  self (zV,(I.wrap .i64 (I.add D8 1)))
  else
  self (vE,(I.wrap .i64 (I.add D8 1)))
 else
  k (vE,D8)
def jt(I:Pr)(M:Md)(n:Nat)(a0:af)(DG:Int)(GU:ai)(yT:Int)(k:(List Int)×Int→Option (af×Int))(self:(List Int)×Int→Option (af×Int))(st:(List Int)×Int):Option (af×Int):=
 match st with
 |(vN,kr)=>
 bif (I.bg kr DG)then
  (gI GU.ae kr).bind fun pA=>
  (some (List.replicate 2 (0:Int))).bind fun uL=>
  (lx 2 uL).bind fun u19=>
  (some (au pA.ops)).bind fun n20=>
  iter (js I M n a0 n20 pA yT kr (fun(vX,vV)=>
   self (vX,(I.wrap .i64 (I.add kr 1))))) n (vN,0)
 else
  k (vN,kr)
def gC(I:Pr)(M:Md)(n:Nat)(Eo:List Int)(OT:Int)(Tm:af)(k:(List ai)×Int→Option (af×Int))(self:(List ai)×Int→Option (af×Int))(st:(List ai)×Int):Option (af×Int):=
 match st with
 |(Ml,Yv)=>
 bif (I.bg Yv OT)then
  (gI Tm.ab Yv).bind fun x49=>
  (gN 12 Yv).bind fun k50=>
  (gK Eo k50).bind fun x51=>
  bif (I.aU x51 1)then
  (aQ 48 Ml x49).bind fun YO=>
  self (YO,(I.wrap .i64 (I.add Yv 1)))
  else
  self (Ml,(I.wrap .i64 (I.add Yv 1)))
 else
  k (Ml,Yv)
def ju(I:Pr)(M:Md)(n:Nat)(a0:af)(BW:Int)(k:(List Int)×Int→Option (af×Int))(self:(List Int)×Int→Option (af×Int))(st:(List Int)×Int):Option (af×Int):=
 match st with
 |(zX,yT)=>
 bif (I.bg yT BW)then
  (gI a0.ab yT).bind fun GU=>
  (some (au GU.ae)).bind fun DG=>
  iter (jt I M n a0 DG GU yT (fun(WK,z36)=>
   self (WK,(I.wrap .i64 (I.add yT 1))))) n (zX,0)
 else
  k (zX,yT)
def e8(I:Pr)(M:Md)(n:Nat)(a0:af)(k:(List Int)→Option (af×Int))(self:(List Int)→Option (af×Int))(l6:(List Int)):Option (af×Int):=
 (lx 12 l6).bind fun u7=>
 (some (List.replicate 12 (0:Int))).bind fun l8=>
 (lx 12 l8).bind fun u9=>
 (some (au a0.ab)).bind fun BW=>
 iter (ju I M n a0 BW (fun(KR,z38)=>
  (lx 12 KR).bind fun u39=>
  (lx 12 l6).bind fun u40=>
  (lx 12 KR).bind fun u41=>
  (lx 12 l6).bind fun u42=>
  (some (decide (KR=l6))).bind fun b43=>
  bif b43 then
   k KR
  else
   self KR)) n (l6,0)
def ga(I:Pr)(M:Md)(n:Nat)(a0:af)(a1:ByteArray):Option (af×Int):=
 (il I M n a0 a1).bind fun y1=>
 bif (I.not (I.aU y1.2 0))then
 some ((⟨[]⟩:af),y1.2)
 else
 (some (List.replicate 12 (0:Int))).bind fun l2=>
 (gN 12 y1.1).bind fun k3=>
 (gK l2 k3).bind fun x4=>
 (nO l2 k3 1).bind fun l5=>
 iter (e8 I M n a0 (fun Eo=>
  (oe I M n a0).bind fun Tm=>
  (some (au Tm.ab)).bind fun OT=>
  iter (gC I M n Eo OT Tm (fun(Sr,z54)=>
   some ((⟨Sr⟩:af),0))) n ([],0))) n l5
def mf(I:Pr)(M:Md)(n:Nat)(a0:List Int)(a1:List Int):Option Bool:=
 (da I M n a0 a1).bind fun y1=>
 some y1
def iH(I:Pr)(M:Md)(n:Nat)(a0:af)(a1:ByteArray):Option Bool:=
 (xN I M n a0).bind fun y1=>
 (some (lF a1)).bind fun n2=>
 bif (I.pick y1 true (I.bg 40 n2))then
 (oS I M n).bind fun y3=>
 some y3
 else
 (tB I M n a0).bind fun y4=>
 (rW I M n a0).bind fun y5=>
 bif (I.aU y5 0)then
  (jq I M n a0).bind fun y6=>
  (rV I M n a0).bind fun y7=>
  (nZ I M n (⟨a0.ab⟩:af) a1).bind fun y8=>
  (ej I M n y4).bind fun y9=>
  (gd I M n y4).bind fun yU=>
  (ga I M n y4 a1).bind fun uf=>
  (fN (I.pick (I.pick (I.not (I.aU y9.2 y5)) true (I.not (I.aU yU.2 y5))) true (I.not (I.aU uf.2 y8.2))) false (mf I M n y9.1 y6) default).bind fun Ns=>
  (fN (I.pick (I.pick (I.pick (I.not (I.aU y9.2 y5)) true (I.not (I.aU yU.2 y5))) true (I.not (I.aU uf.2 y8.2))) true (I.not Ns)) false (dP I M n yU.1 y7) default).bind fun ue=>
  (fN (I.pick (I.pick (I.pick (I.pick (I.not (I.aU y9.2 y5)) true (I.not (I.aU yU.2 y5))) true (I.not (I.aU uf.2 y8.2))) true (I.not Ns)) true (I.not ue)) false (dP I M n uf.1 y8.1) default).bind fun Nr=>
  bif (I.pick (I.pick (I.pick (I.pick (I.pick (I.not (I.aU y9.2 y5)) true (I.not (I.aU yU.2 y5))) true (I.not (I.aU uf.2 y8.2))) true (I.not Ns)) true (I.not ue)) true (I.not Nr))then
  some false
  else
  (dP I M n y4 (⟨a0.ab⟩:af)).bind fun KN=>
  (fN KN true (oS I M n) default).bind fun KX=>
  some (I.pick KN KX false)
 else
  (ej I M n y4).bind fun Nq=>
  (gd I M n y4).bind fun Np=>
  (ga I M n y4 a1).bind fun YB=>
  (fN (I.pick (I.pick (I.not (I.aU Nq.2 y5)) true (I.not (I.aU Np.2 y5))) true (I.not (I.aU YB.2 y5))) false (mf I M n Nq.1 []) default).bind fun PW=>
  (fN (I.pick (I.pick (I.pick (I.not (I.aU Nq.2 y5)) true (I.not (I.aU Np.2 y5))) true (I.not (I.aU YB.2 y5))) true (I.not PW)) false (dP I M n Np.1 (⟨[]⟩:af)) default).bind fun y21=>
  (fN (I.pick (I.pick (I.pick (I.pick (I.not (I.aU Nq.2 y5)) true (I.not (I.aU Np.2 y5))) true (I.not (I.aU YB.2 y5))) true (I.not PW)) true (I.not y21)) false (dP I M n YB.1 (⟨[]⟩:af)) default).bind fun YA=>
  bif (I.pick (I.pick (I.pick (I.pick (I.pick (I.not (I.aU Nq.2 y5)) true (I.not (I.aU Np.2 y5))) true (I.not (I.aU YB.2 y5))) true (I.not PW)) true (I.not y21)) true (I.not YA))then
  some false
  else
  (dP I M n y4 (⟨a0.ab⟩:af)).bind fun y23=>
  (fN y23 true (oS I M n) default).bind fun y24=>
  some (I.pick y23 y24 false)
end Ab
namespace Ab
theorem alE{α:Type}{enc:α→List AV}{M:Md}{r k:Nat}{l w:List α}(hM:M= .al)(q:some (l.take k)=some w){X:List (List AV)}(hX:X=List.take k (M.map enc l):=by first|rfl|rw[List.take.eq_def]):AV.sl r X=AV.sl r (M.map enc w):=by
 cases q;rw[hX];exact Ue hM l k
end Ab
namespace Ab
open Go
def Kh{α:Type}:List Bool→(List Bool→α)→α
 |[],k=>k []
 |true::r,k=>Kh r fun q=>k (true::q)
 |false::r,k=>Kh r fun q=>k (false::q)
theorem Ci{α:Type}: ∀(l:List Bool) (k:List Bool→α),Kh l k=k l
 |[],_=>rfl
 |true::r,k=>Ci r fun q=>k (true::q)
 |false::r,k=>Ci r fun q=>k (false::q)
def Ck{α:Type}(l:Array Bool)(k:Array Bool→α):α:=Kh l.toList fun r=>k ⟨r⟩
theorem Cj{α:Type}(l:Array Bool)(k:Array Bool→α):Ck l k=k l:=by
 unfold Ck;rw[Ci]
def DY(cl:Nat→Bool)(ops:Array Oper):Tree→Nat→Array Bool→Option (List Nat)→Bool
 | .done,_,l,none=>(Region.ready .any ops l).isEmpty
 | .one i t,f+1,l,none=>Jm cl ops l i&&Ck (l.setIfInBounds i true) fun q=>DY cl ops t f q none
 | .aj i t u,f+1,l,none=>match Region.ready .any ops l with
  |r::rs=>bQ r i&&(Ck (l.setIfInBounds i true) fun q=>DY cl ops t f q none)&&DY cl ops u (f+1) l (some rs)
  |[]=>false
 | .aj i t u,f+1,l,some (r::rs)=>bQ r i&&(Ck (l.setIfInBounds i true) fun q=>DY cl ops t f q none)&&DY cl ops u (f+1) l (some rs)
 | .nil,_+1,_,some []=>true
 |_,_,_,_=>false
theorem acK(cl:Nat→Bool)(ops:Array Oper): ∀(t:Tree) (f:Nat) (l:Array Bool) (o:Option (List Nat)),DY cl ops t f l o=Cs cl ops t f l o:=by
 intro t
 induction t with
 |done=>intro f l o;cases o<;>simp only[DY,Cs]
 |nil=>intro f l o;cases f<;>rcases o with _|_|_<;>simp only[DY,Cs]
 |one i t ih=>intro f l o;cases f<;>cases o<;>simp only[DY,Cs,Cj,ih]
 |aj i t u ih1 ih2=>
  intro f l o;cases f with
  |zero=>cases o<;>simp only[DY,Cs]
  |succ f=>rcases o with _|_|_<;>simp only[DY,Cs,Cj,ih1,ih2]<;>rfl
def TF:Code→List (Nat×Array Oper)
 | .region id ops true=>[(id,ops)]
 | .seq a b=>TF a++TF b
 | .cond _ a b=>TF a++TF b
 | .block _ a=>TF a
 | .loop a=>TF a
 | .scope a=>TF a
 | .rangeFunc _ _ a b=>TF a++TF b
 |_=>[]
def ai6(cl:Nat→Bool)(T:Nat→Tree)(p:Nat×Array Oper):Bool:=Region.noSelect p.2&&Ck (Array.replicate p.2.size false) fun l=>DY cl p.2 (T p.1) p.2.size l none
def S1(cl:Nat→Bool)(T:Nat→Tree)(c:Code)(k:Nat):Bool:=match(TF c)[k]? with
 |some p=>ai6 cl T p
 |none=>true
def r8:Code→Bool
 | .seq a b=>r8 a&&r8 b
 | .cond _ a b=>r8 a&&r8 b
 | .block _ a=>r8 a
 | .loop a=>r8 a
 | .scope a=>r8 a
 | .rangeFunc _ _ a b=>(vM a&&vM b)&&(r8 a&&r8 b)
 |_=>true
theorem jx(cl:Nat→Bool)(T:Nat→Tree): ∀c:Code,r8 c=true→(∀p∈TF c,ai6 cl T p=true)→cB cl T c=true
 | .region id ops true,_,h=>by
  have:=h _ (List.mem_singleton.2 rfl)
  unfold ai6 at this;rw[Cj,acK]at this;exact this
 | .region _ _ false,_,_=>rfl
 | .seq a b,n,h=>by
  simp only[r8,Bool.and_eq_true]at n;simp only[cB,Bool.and_eq_true];exact⟨jx cl T a n.1 fun p hp=>h p (List.mem_append.2 (.inl hp)),jx cl T b n.2 fun p hp=>h p (List.mem_append.2 (.inr hp))⟩
 | .cond _ a b,n,h=>by
  simp only[r8,Bool.and_eq_true]at n;simp only[cB,Bool.and_eq_true];exact⟨jx cl T a n.1 fun p hp=>h p (List.mem_append.2 (.inl hp)),jx cl T b n.2 fun p hp=>h p (List.mem_append.2 (.inr hp))⟩
 | .block _ a,n,h=>jx cl T a n h
 | .loop a,n,h=>jx cl T a n h
 | .scope a,n,h=>jx cl T a n h
 | .rangeFunc _ _ a b,n,h=>by
  simp only[r8,Bool.and_eq_true]at n;simp only[cB,Bool.and_eq_true];exact⟨n.1,jx cl T a n.2.1 fun p hp=>h p (List.mem_append.2 (.inl hp)),jx cl T b n.2.2 fun p hp=>h p (List.mem_append.2 (.inr hp))⟩
 | .skip,_,_| .exit _,_,_| .label _,_,_| .goto _,_,_| .ret,_,_| .refuse _,_,_=>rfl
theorem XS{cl:Nat→Bool}{T:Nat→Tree}{c:Code}(n:Nat)(hn:r8 c=true:=by kernel_rfl)(hl:(TF c).length=n:=by kernel_rfl)(h: ∀k,k<n→S1 cl T c k=true):cB cl T c=true:=by
 refine jx cl T c hn fun p hp=>?_;obtain⟨k,hk,e⟩:=List.getElem_of_mem hp;have:=h k (hl▸hk)
 unfold S1 at this;rw[fp hk]at this;rw[e]at this;exact this
end Ab
namespace Ab
open Go
variable{P:Program}{E:Env}{w w':World}{a:Act}
theorem count_set{l:List Bool}{i:Nat}(h:l[i]? =some false):(l.set i true).count false+1=l.count false:=by
 obtain⟨h1,h2⟩:=bh.1 h;have h3:0<l.count false:=List.count_pos_iff.2 (by rw[←h2];exact List.getElem_mem h1)
 rw[List.count_set h1,h2];simp;omega
theorem Rc{cl:Nat→Bool}{ops:Array Oper}{Q:Exit→Act→World→Prop}(Inv:Array Bool→Act→World→Prop)(Pd: ∀l a w,Inv l a w→Region.ready .any ops l=[]→Q .normal a w)
  (adQ: ∀l a w i,Inv l a w→i∈Region.ready .any ops l→kP P cl ops Q i (Inv (l.setIfInBounds i true)) a w):
  ∀(fuel:Nat) (l:Array Bool) (a:Act) (w:World),Inv l a w→l.toList.count false≤fuel→qC P cl .any ops Q fuel l a w
 |0,l,a,w,h,hc=>by
  have hr:Region.ready .any ops l=[]:=by
   apply List.eq_nil_iff_forall_not_mem.2;intro j hj;have h1:=(mem_ready.1 hj).1
   have h2:false∈l.toList:=by
    rw[Array.getD_eq_getD_getElem?]at h1;cases h3:l[j]? with
    |none=>rw[h3]at h1;simp at h1
    |some b=>rw[h3]at h1;simp at h1;subst h1;rw[←Array.getElem?_toList]at h3;exact jK h3
   have:=List.count_pos_iff.2 h2
   omega
  exact⟨hr,Pd l a w h hr⟩
 |fuel+1,l,a,w,h,hc=>by
  refine⟨fun hr=>Pd l a w h hr,fun i hi=>yX (fun a' w' h'=>?_) (adQ l a w i h hi)⟩;refine Rc Inv Pd adQ fuel _ a' w' h' ?_;have h1:=(mem_ready.1 hi).1
  have h3:l.toList[i]? =some false:=by
   rw[Array.getD_eq_getD_getElem?]at h1;rw[Array.getElem?_toList];cases h3:l[i]? with
   |none=>rw[h3]at h1;simp at h1
   |some b=>rw[h3]at h1;simp at h1;subst h1;rfl
  have:=count_set h3
  rw[Array.toList_setIfInBounds];omega
theorem mw{cl:Nat→Bool}{ops:Array Oper}{Q:Exit→Act→World→Prop}{i:Nat}{o:Oper}{K:Act→World→Prop}{x:Value}(hi:ops[i]? =some o)(hg:o.guard=none)(hr:(execOp a.eval o).run P w= .ok (.value x) w)(hk:K (a.put o.dst x) w):kP P cl ops Q i K a w:=by
 unfold kP;rw[hi];dsimp only;rw[if_pos (by simp[Region.wanted,hg])];unfold lz;rw[hr];exact⟨hk,fun _=>cf.refl w⟩
theorem LY{cl:Nat→Bool}{ops:Array Oper}{Q:Exit→Act→World→Prop}{i:Nat}{o:Oper}{K:Act→World→Prop}(hi:ops[i]? =some o)(hg:o.guard=none)(hc:Gz cl o.op=false)(hr:(execOp a.eval o).run P w= .ok .skip w')(hk:K (a.put o.dst undef) w'):kP P cl ops Q i K a w:=by
 unfold kP;rw[hi];dsimp only;rw[if_pos (by simp[Region.wanted,hg])];unfold lz;rw[hr];exact⟨hk,fun h=>by rw[hc]at h;cases h⟩
abbrev FL:=List (Nat×Nat×Value)
def FOk(F:FL)(l:Array Bool)(a:Act):Prop:= ∀x∈F,l.getD x.1 false=true→a.tmps.getD x.2.1 undef=x.2.2
def FU(F:FL):Prop:= ∀x∈F,∀y∈F,(x.1=y.1→x=y)∧(x.2.1=y.2.1→x=y)
theorem Iu{l:Array Bool}{i j:Nat}(h:(l.setIfInBounds i true).getD j false=true):j=i∨l.getD j false=true:=by
 simp only[Array.getD_eq_getD_getElem?,Array.getElem?_setIfInBounds]at h ⊢;by_cases hij:i=j
 ·exact .inl hij.symm
 ·rw[if_neg hij]at h;exact .inr h
theorem FOk.put{F:FL}{l:Array Bool}{i d:Nat}{v:Value}(hU:FU F)(h:FOk F l a)(hm:(i,d,v)∈F)(hd:d<a.tmps.size):FOk F (l.setIfInBounds i true) (a.put (some d) v):=by
 intro x hx hl;rw[wa a d x.2.1 v hd];by_cases hxd:x.2.1=d
 ·rw[if_pos hxd];have:=(hU x hx _ hm).2 hxd
  rw[this]
 ·rw[if_neg hxd];rcases Iu hl with h1|h1
  ·have:=(hU x hx _ hm).1 h1
   rw[this]at hxd;exact absurd rfl hxd
  ·exact h x hx h1
theorem FOk.skip{F:FL}{l:Array Bool}{i:Nat}(h:FOk F l a)(hn: ∀x∈F,x.1≠i):FOk F (l.setIfInBounds i true) a:=fun x hx hl=>by
 rcases Iu hl with h1|h1
 ·exact absurd h1 (hn x hx)
 ·exact h x hx h1
def ia:Value:= .string ⟨#[109,111,114,101]⟩
def hp3(H:Array Obj)(B2 bo oo:Nat)(c2 cO:Array Value)(e2 eO:Nat)(b6 b9:Bool):Array Obj:=
 let H6:=bif b6 then H.setIfInBounds B2 (.cells (c2.setIfInBounds 0 ia) e2 (0,0))else H
 bif b9 then H6.setIfInBounds bo (.cells (cO.setIfInBounds (oo+5) ia) eO (0,0))else H6
theorem W4{H:Array Obj}{B2 bo oo:Nat}{c2 cO:Array Value}{e2 eO:Nat}{b6 b9:Bool}(h2:H[B2]? =some (.cells c2 e2 (0,0)))(ct:bo≠B2):(hp3 H B2 bo oo c2 cO e2 eO b6 b9)[B2]? =some (.cells (bif b6 then c2.setIfInBounds 0 ia else c2) e2 (0,0)):=by
 obtain⟨aV,_⟩:=Array.getElem?_eq_some_iff.1 h2;have h6:(bif b6 then H.setIfInBounds B2 (Obj.cells (c2.setIfInBounds 0 ia) e2 (0,0))else H)[B2]? =some (.cells (bif b6 then c2.setIfInBounds 0 ia else c2) e2 (0,0)):=by
  cases b6 with
  |false=>exact h2
  |true=>simp[aV]
 unfold hp3;cases b9 with
 |false=>exact h6
 |true=>show(Array.setIfInBounds _ _ _)[B2]? =_;rw[Array.getElem?_setIfInBounds_ne ct];exact h6
theorem ait{H:Array Obj}{B2 bo oo:Nat}{c2 cO:Array Value}{e2 eO:Nat}{b6:Bool}(hO:H[bo]? =some (.cells cO eO (0,0)))(ct:bo≠B2):(hp3 H B2 bo oo c2 cO e2 eO b6 false)[bo]? =some (.cells cO eO (0,0)):=by
 unfold hp3;cases b6 with
 |false=>exact hO
 |true=>show(Array.setIfInBounds _ _ _)[bo]? =_;rw[Array.getElem?_setIfInBounds_ne (Ne.symm ct)];exact hO
theorem W3{H:Array Obj}{B2 bo oo b o:Nat}{c2 cO:Array Value}{e2 eO:Nat}{b6:Bool}(ct:b≠B2):aO (hp3 H B2 bo oo c2 cO e2 eO b6 false) b o=aO H b o:=by
 have h:(hp3 H B2 bo oo c2 cO e2 eO b6 false)[b]? =H[b]? :=by
  unfold hp3;cases b6 with
  |false=>rfl
  |true=>show(Array.setIfInBounds _ _ _)[b]? =_;rw[Array.getElem?_setIfInBounds_ne (Ne.symm ct)]
 unfold aO;rw[h]
theorem Mi{t b q:Nat}{ti:TI}{y:Value}{L:nK}(hL:bj P L)(ht:L t=some ti)(tM:ti.agg=false)(hl:ti.size=1)(hy:aO w.heap b q=some y):(Instr.loadAt t (.pointer (some ⟨b,q,none⟩))).run P w= .ok y w:=by
 have hp:part ti [AV.v y] 0=some (.v y):=by
  unfold part;rw[show mM (0+ti.size) [AV.v y].length=true by rw[wP];simp[hl],tM];rfl
 obtain⟨y',g1,g2⟩:=gU (P:=P) (E:=⟨#[],fun _ _=>False,fun _=>0,fun _=>0,fun _=>False,fun _=>(0,0),fun _=> .Wd,[]⟩) (w:=w) hL ht (b:=b) (o:=q) hp (fun j a' ha=>by
  cases j with
  |zero=>cases ha;exact⟨y,hy,.v _⟩
  |succ j=>simp at ha)
 have:=bN g2
 subst this;simpa using g1
theorem HG{t b q e:Nat}{ti:TI}{c:Array Value}{s:ByteArray}{L:nK}(hL:bj P L)(ht:L t=some ti)(hl:ti.size=1)(hb:w.heap[b]? =some (.cells c e (0,0)))(hq:q<c.size):
  ∃w',(Instr.storeAt t (.pointer (some ⟨b,q,none⟩)) (.string s)).run P w= .ok () w'∧w'.heap=w.heap.setIfInBounds b (.cells (c.setIfInBounds q (.string s)) e (0,0))∧jk w w':=by
 have jh:(Value.string s).cells= #[.string s]:=rfl
 obtain⟨w',g1,g2,g3⟩:=run_store (P:=P) hL ht (off:=q) (v:= .string s) hb (by rw[jh];exact hl.symm) (by omega) (by rw[jh];intro x hx;simp at hx;subst hx;rfl);rw[jh]at g2;exact⟨w',g1,by rw[g2];rfl,g3⟩
theorem ij{l:Array Bool}{i j:Nat}(h:j≠i):(l.setIfInBounds i true).getD j false=l.getD j false:=by
 simp only[Array.getD_eq_getD_getElem?,Array.getElem?_setIfInBounds_ne (Ne.symm h)]
theorem Cf{l:Array Bool}{i:Nat}(h:i<l.size):(l.setIfInBounds i true).getD i false=true:=by
 simp[Array.getD_eq_getD_getElem?,h]
structure Bl(w0:World)(H:Array Obj)(B2 bo oo:Nat)(c2 cO:Array Value)(e2 eO:Nat)(df:List Deferred)(base:Nat→Value)(F:FL)(l:Array Bool)(a:Act)(w:World):Prop where
 sz:l.size=10
 heap:w.heap=hp3 H B2 bo oo c2 cO e2 eO (l.getD 6 false) (l.getD 9 false)
 same:jk w0 w
 last:l.getD 9 false=true→ ∀j,j<9→l.getD j false=true
 c8:l.getD 8 false=true→l.getD 7 false=true
 tm:a.tmps.size=29
 df:a.defers=df
 base: ∀d,d<3→a.tmps.getD d undef=base d
 fs:FOk F l a
section
variable{w0:World}{H:Array Obj}{B2 bo oo:Nat}{c2 cO:Array Value}{e2 eO:Nat}{df:List Deferred}{base:Nat→Value}{F:FL}{l:Array Bool}
theorem Bl.no9(h:Bl w0 H B2 bo oo c2 cO e2 eO df base F l a w){i:Nat}(hi:i<9)(hu:l.getD i true=false):l.getD 9 false=false:=by
 cases h9:l.getD 9 false with
 |false=>rfl
 |true=>
  have:=h.last h9 i hi
  have aV:i<l.size:=by rw[h.sz];omega
  simp only[Array.getD_eq_getD_getElem?,Array.getElem?_eq_getElem aV,Option.getD_some]at this hu;rw[this]at hu;cases hu
theorem Bl.put(h:Bl w0 H B2 bo oo c2 cO e2 eO df base F l a w){i d:Nat}{v:Value}(hU:FU F)(hi:i<9)(h6:i≠6)(hu:l.getD i true=false)(hm:(i,d,v)∈F)(hd:3≤d∧d<29)(h8:i=8→l.getD 7 false=true):
  Bl w0 H B2 bo oo c2 cO e2 eO df base F (l.setIfInBounds i true) (a.put (some d) v) w:=by
 have h9:=h.no9 hi hu
 refine⟨by simpa using h.sz,?_,h.same,fun hh=>?_,fun hh=>?_,by simp[Act.put,h.tm],h.df,fun d' nN=>?_,h.fs.put hU hm (by rw[h.tm];exact hd.2)⟩
 ·rw[ij (Ne.symm h6),ij (by omega)];exact h.heap
 ·rw[ij (by omega),h9]at hh;cases hh
 ·by_cases h7:i=7
  ·subst h7;exact Cf (by rw[h.sz];decide)
  ·rw[ij (Ne.symm h7)];by_cases h8':i=8
   ·exact h8 h8'
   ·rw[ij (Ne.symm h8')]at hh;exact h.c8 hh
 ·rw[wa a d d' v (by rw[h.tm];exact hd.2),if_neg (by omega)];exact h.base d' nN
theorem Bl.s6(h:Bl w0 H B2 bo oo c2 cO e2 eO df base F l a w)(hu:l.getD 6 true=false)(hF: ∀x∈F,x.1≠6){w':World}(h2:H[B2]? =some (.cells c2 e2 (0,0)))(hh:w'.heap=w.heap.setIfInBounds B2 (.cells (c2.setIfInBounds 0 ia) e2 (0,0)))(hs:jk w w'):
  Bl w0 H B2 bo oo c2 cO e2 eO df base F (l.setIfInBounds 6 true) a w':=by
 have h9:=h.no9 (by decide) hu
 have h6:l.getD 6 false=false:=by
  have aV:6<l.size:=by rw[h.sz];omega
  simp only[Array.getD_eq_getD_getElem?,Array.getElem?_eq_getElem aV,Option.getD_some]at hu ⊢;exact hu
 refine⟨by simpa using h.sz,?_,h.same.trans hs,fun hh=>?_,fun hh=>by rw[ij (by decide)]at hh ⊢;exact h.c8 hh,h.tm,h.df,h.base,h.fs.skip hF⟩
 ·rw[hh,h.heap,Cf (by rw[h.sz];decide),ij (by decide),h9,h6];rfl
 ·rw[ij (by decide),h9]at hh;cases hh
theorem Bl.s9(h:Bl w0 H B2 bo oo c2 cO e2 eO df base F l a w)(hu:l.getD 9 true=false)(hF: ∀x∈F,x.1≠9)(jN: ∀j,j<9→j≠7→l.getD j false=true){w':World}(hh:w'.heap=w.heap.setIfInBounds bo (.cells (cO.setIfInBounds (oo+5) ia) eO (0,0)))(hs:jk w w'):
  Bl w0 H B2 bo oo c2 cO e2 eO df base F (l.setIfInBounds 9 true) a w':=by
 have h9:l.getD 9 false=false:=by
  have aV:9<l.size:=by rw[h.sz];omega
  simp only[Array.getD_eq_getD_getElem?,Array.getElem?_eq_getElem aV,Option.getD_some]at hu ⊢;exact hu
 have aok: ∀j,j<9→l.getD j false=true:=fun j hj=>by
  by_cases h7:j=7
  ·subst h7;exact h.c8 (jN 8 (by decide) (by decide))
  ·exact jN j hj h7
 refine⟨by simpa using h.sz,?_,h.same.trans hs,fun _ j hj=>?_,fun hh=>by rw[ij (by decide)]at hh ⊢;exact h.c8 hh,h.tm,h.df,h.base,h.fs.skip hF⟩
 ·rw[hh,h.heap,Cf (by rw[h.sz];decide),ij (by decide),h9];rfl
 ·rw[ij (by omega)];exact aok j hj
end
def rT:Nat→Op×Option Nat
 |0=>(.fieldAddr 57 (.tmp 2) 2,some 14)
 |1=>(.load 55 (.tmp 14),some 15)
 |2=>(.indexAddr 55 (.tmp 15) (.const (.int .i64 0)),some 16)
 |3=>(.fieldAddr 61 (.tmp 16) 2,some 17)
 |4=>(.load 59 (.tmp 17),some 18)
 |5=>(.fieldAddr 57 (.tmp 2) 0,some 19)
 |6=>(.store 9 (.tmp 19) (.const ia),none)
 |7=>(.indexAddr 59 (.tmp 18) (.const (.int .i64 1)),some 20)
 |8=>(.fieldAddr 64 (.tmp 20) 1,some 21)
 |_=>(.store 9 (.tmp 21) (.const ia),none)
def nh:Nat→Nat→Bool
 |1,0=>true
 |2,1=>true
 |3,2=>true
 |4,3=>true
 |6,5=>true
 |7,4=>true
 |8,7=>true
 |9,j=>decide (j<9)&& !decide (j=7)
 |_,_=>false
def F3(B2 bb ob nb cb bo oo no co:Nat):FL:=
 [(0,14,.pointer (some ⟨B2,2,none⟩)),(1,15,.slice (some ⟨bb,ob,none⟩) nb cb),(2,16,.pointer (some ⟨bb,ob,none⟩)),(3,17,.pointer (some ⟨bb,ob+2,none⟩)),(4,18,.slice (some ⟨bo,oo,none⟩) no co),
  (5,19,.pointer (some ⟨B2,0,none⟩)),(7,20,.pointer (some ⟨bo,oo+4,none⟩)),(8,21,.pointer (some ⟨bo,oo+5,none⟩))]
theorem fu3{B2 bb ob nb cb bo oo no co:Nat}:FU (F3 B2 bb ob nb cb bo oo no co):=by
 intro x hx y hy;simp only[F3,List.mem_cons,List.mem_nil_iff,or_false]at hx hy;rcases hx with rfl|rfl|rfl|rfl|rfl|rfl|rfl|rfl<;>rcases hy with rfl|rfl|rfl|rfl|rfl|rfl|rfl|rfl<;>simp
theorem am0{cl:Nat→Bool}{ops:Array Oper}{Q:Exit→Act→World→Prop}(hk: ∀i,i<10→ ∃o,ops[i]? =some o∧o.guard=none∧o.op=(rT i).1∧o.dst=(rT i).2)
  (auj: ∀(l:Array Bool) i,i∈Region.ready .any ops l→i<10∧ ∀j,nh i j=true→l.getD j false=true)
  {w0:World}{H:Array Obj}{B2 bb ob nb cb bo oo no co:Nat}{c2 cO:Array Value}{e2 eO:Nat}{df:List Deferred}{base:Nat→Value}
  (DO:base 2= .pointer (some ⟨B2,0,none⟩))(h2:H[B2]? =some (.cells c2 e2 (0,0)))(h20:0<c2.size)(h22:c2[2]? =some (.slice (some ⟨bb,ob,none⟩) nb cb))(Ty:0<nb)(Xj:aO H bb (ob+2)=some (.slice (some ⟨bo,oo,none⟩) no co))(Mz:1<no)
  (hO:H[bo]? =some (.cells cO eO (0,0)))(hO5:oo+5<cO.size)(ct:bo≠B2)(atX:bb≠B2)
  (Pd: ∀l a w,Bl w0 H B2 bo oo c2 cO e2 eO df base (F3 B2 bb ob nb cb bo oo no co) l a w→Region.ready .any ops l=[]→Q .normal a w)
  {l:Array Bool}{a:Act}{w:World}(h:Bl w0 H B2 bo oo c2 cO e2 eO df base (F3 B2 bb ob nb cb bo oo no co) l a w)(fuel:Nat)(hf:l.toList.count false≤fuel):qC PP cl .any ops Q fuel l a w:=by
 refine Rc (fun l a w=>Bl w0 H B2 bo oo c2 cO e2 eO df base (F3 B2 bb ob nb cb bo oo no co) l a w) Pd (fun l a w i h hi=>?_) fuel l a w h hf;obtain⟨By,hd⟩:=auj l i hi;have hu:=(mem_ready.1 hi).1
 obtain⟨o,ho,hg,yb,sI⟩:=hk i By;have ev: ∀{j d:Nat} {v:Value},(j,d,v)∈F3 B2 bb ob nb cb bo oo no co→l.getD j false=true→a.eval (.tmp d)=v:=fun hm hl=>h.fs _ hm hl
 have e2':a.eval (.tmp 2)= .pointer (some ⟨B2,0,none⟩):=(h.base 2 (by decide)).trans DO
 match i,By,yb,sI,hd,hu,ho with
 |0,_,yb,sI,hd,hu,ho=>
  refine mw ho hg (x:= .pointer (some ⟨B2,2,none⟩)) ?_ (by rw[sI];exact h.put fu3 (by decide) (by decide) hu (by simp[F3]) (by decide) (by simp));simp only[execOp,yb,rT,e2'];simp[mr (P:=PP) lay (show ik L 57 2=some 2 from rfl)]
 |1,_,yb,sI,hd,hu,ho=>
  refine mw ho hg (x:= .slice (some ⟨bb,ob,none⟩) nb cb) ?_ (by rw[sI];exact h.put fu3 (by decide) (by decide) hu (by simp[F3]) (by decide) (by simp));have hc:aO w.heap B2 2=some (.slice (some ⟨bb,ob,none⟩) nb cb):=by
   rw[h.heap];unfold aO;rw[W4 h2 ct];cases l.getD 6 false with
   |false=>exact h22
   |true=>show(c2.setIfInBounds 0 ia)[2]? =_;rw[Array.getElem?_setIfInBounds_ne (by decide)];exact h22
  have:=Mi (P:=PP) (t:=55) lay (show L 55=some _ from rfl) rfl rfl hc
  simp only[execOp,yb,rT,ev (j:=0) (d:=14) (by simp[F3];rfl) (hd 0 rfl)];simp[this]
 |2,_,yb,sI,hd,hu,ho=>
  refine mw ho hg (x:= .pointer (some ⟨bb,ob,none⟩)) ?_ (by rw[sI];exact h.put fu3 (by decide) (by decide) hu (by simp[F3]) (by decide) (by simp));have:=j4 (P:=PP) (t:=55) lay (show elemOf L 55=some (61,_)from rfl) .i64 0 bb ob nb cb (by decide) (by omega) w
  simp only[execOp,yb,rT,ev (j:=1) (d:=15) (by simp[F3];rfl) (hd 1 rfl)];simp at this;simp[Act.eval,this]
 |3,_,yb,sI,hd,hu,ho=>
  refine mw ho hg (x:= .pointer (some ⟨bb,ob+2,none⟩)) ?_ (by rw[sI];exact h.put fu3 (by decide) (by decide) hu (by simp[F3]) (by decide) (by simp));simp only[execOp,yb,rT,ev (j:=2) (d:=16) (by simp[F3];rfl) (hd 2 rfl)];simp[mr (P:=PP) lay (show ik L 61 2=some 2 from rfl)]
 |4,_,yb,sI,hd,hu,ho=>
  refine mw ho hg (x:= .slice (some ⟨bo,oo,none⟩) no co) ?_ (by rw[sI];exact h.put fu3 (by decide) (by decide) hu (by simp[F3]) (by decide) (by simp));have hc:aO w.heap bb (ob+2)=some (.slice (some ⟨bo,oo,none⟩) no co):=by
   rw[h.heap,h.no9 (by decide) hu,W3 atX];exact Xj
  have:=Mi (P:=PP) (t:=59) lay (show L 59=some _ from rfl) rfl rfl hc
  simp only[execOp,yb,rT,ev (j:=3) (d:=17) (by simp[F3];rfl) (hd 3 rfl)];simp[this]
 |5,_,yb,sI,hd,hu,ho=>
  refine mw ho hg (x:= .pointer (some ⟨B2,0,none⟩)) ?_ (by rw[sI];exact h.put fu3 (by decide) (by decide) hu (by simp[F3]) (by decide) (by simp));simp only[execOp,yb,rT,e2'];simp[mr (P:=PP) lay (show ik L 57 0=some 0 from rfl)]
 |6,_,yb,sI,hd,hu,ho=>
  have h6:l.getD 6 false=false:=by
   have aV:6<l.size:=by rw[h.sz];omega
   simp only[Array.getD_eq_getD_getElem?,Array.getElem?_eq_getElem aV,Option.getD_some]at hu ⊢;exact hu
  have hc:w.heap[B2]? =some (.cells c2 e2 (0,0)):=by rw[h.heap,W4 h2 ct,h6];rfl
  obtain⟨w',g1,g2,g3⟩:=HG (P:=PP) (t:=9) (s:=⟨#[109,111,114,101]⟩) lay (show L 9=some _ from rfl) rfl hc (q:=0) h20;refine LY ho hg (by rw[yb];rfl) ?_ (by rw[sI];exact h.s6 hu (by simp[F3]) h2 g2 g3);simp only[execOp,yb,rT,ev (j:=5) (d:=19) (by simp[F3];rfl) (hd 5 rfl)];simp[Act.eval,ia,g1]
 |7,_,yb,sI,hd,hu,ho=>
  refine mw ho hg (x:= .pointer (some ⟨bo,oo+4,none⟩)) ?_ (by rw[sI];exact h.put fu3 (by decide) (by decide) hu (by simp[F3]) (by decide) (by simp));have:=j4 (P:=PP) (t:=59) lay (show elemOf L 59=some (64,_)from rfl) .i64 1 bo oo no co (by decide) (by omega) w
  simp only[execOp,yb,rT,ev (j:=4) (d:=18) (by simp[F3];rfl) (hd 4 rfl)];simp at this;simp[Act.eval,this]
 |8,_,yb,sI,hd,hu,ho=>
  refine mw ho hg (x:= .pointer (some ⟨bo,oo+5,none⟩)) ?_ (by rw[sI];exact h.put fu3 (by decide) (by decide) hu (by simp[F3]) (by decide) (fun _=>hd 7 rfl));simp only[execOp,yb,rT,ev (j:=7) (d:=20) (by simp[F3];rfl) (hd 7 rfl)];simp[mr (P:=PP) lay (show ik L 64 1=some 1 from rfl)]
 |9,_,yb,sI,hd,hu,ho=>
  have h9:l.getD 9 false=false:=by
   have aV:9<l.size:=by rw[h.sz];omega
   simp only[Array.getD_eq_getD_getElem?,Array.getElem?_eq_getElem aV,Option.getD_some]at hu ⊢;exact hu
  have hc:w.heap[bo]? =some (.cells cO eO (0,0)):=by rw[h.heap,h9];exact ait hO ct
  obtain⟨w',g1,g2,g3⟩:=HG (P:=PP) (t:=9) (s:=⟨#[109,111,114,101]⟩) lay (show L 9=some _ from rfl) rfl hc hO5;refine LY ho hg (by rw[yb];rfl) ?_ (by rw[sI];exact h.s9 hu (by simp[F3]) (fun j hj h7=>hd j (by simp[nh,hj,h7])) g2 g3);simp only[execOp,yb,rT,ev (j:=8) (d:=21) (by simp[F3];rfl) (hd 8 (by decide))];simp[Act.eval,ia,g1]
 |n+10,By,_,_,_,_,_=>omega
theorem bq.alM{E0:Env}{w0:World}{s:St}(h:bq E0 E w0 w s a){d:Nat}{cs cs':List AV}(hk:look d s.b=some (.box cs))(hl:cs'.length=cs.length)
  (hc: ∀c e,E.h[E.m (.s d)]? =some (.cells c e (0,0))→ ∀(q:Nat) (av:AV) (x:Value),cs'[q]? =some av→c[q]? =some x→Cz E av x):bq E0 E w0 w {s with b:=cT d (.box cs') s.b} a:=by
 have hp: ∀p:Path,bc {s with b:=cT d (.box cs') s.b} p↔bc s p:=fun p=>j7 fun _ _=>rfl
 refine⟨h.heap,h.wf,h.Kp,h.up,h.sz,fun d' x hd xQ=>h.tm d' x hd ((hp _).1 xQ),fun d' q hd xQ=>h.cu d' q hd fun hh=>xQ ((hp _).2 hh),fun d' ob hd=>?_,fun d' hlv=>?_,h.gx,h.gl,h.ext,h.wI,h.same,h.gk,h.nl,h.ng,h.lo⟩
 ·have hd:look d' (cT d (.box cs') s.b)=some ob:=hd
  rw[aF]at hd;by_cases rF:d=d'
  ·subst rF;rw[if_pos rfl]at hd;cases hd;obtain⟨h1,c,e,h2,h3,h4,h5,_⟩:=h.bx d _ hk;exact⟨h1,c,e,h2,h3,h4,h5.trans hl.symm,hc c e h2⟩
  ·rw[if_neg rF]at hd;exact h.bx d' ob hd
 ·obtain⟨ob,ho⟩:=h.lv d' hlv;show∃ob,look d' (cT d (.box cs') s.b)=some ob;rw[aF];by_cases rF:d=d'
  ·exact⟨_,if_pos rF⟩
  ·exact⟨ob,by rw[if_neg rF];exact ho⟩
end Ab
namespace Ab
open Go
variable{P:Program}{E E' E0:Env}{w w' w0:World}{a:Act}{s:St}
 mutual
def JX(x:Value):AV→Prop
  | .v y=>y≠x
  | .sl _ xs=>L4 x xs
  |_=>False
def noL(x:Value):List AV→Prop
  |[]=>True
  |a::l=>JX x a∧noL x l
def L4(x:Value):List (List AV)→Prop
  |[]=>True
  |a::l=>noL x a∧L4 x l
end
theorem Ql{x:Value}: ∀{cs:List AV},noL x cs→ ∀(q:Nat) (a:AV),cs[q]? =some a→JX x a
 |[],_,q,a,h=>by simp at h
 |y::l,h,q,a,hq=>by
  simp only[noL]at h;cases q with
  |zero=>simp at hq;subst hq;exact h.1
  |succ q=>exact Ql h.2 q a (by simpa using hq)
theorem FK{x:Value}: ∀{xs:List (List AV)},L4 x xs→ ∀(q:Nat) (a:AV),xs.flatten[q]? =some a→JX x a
 |[],_,q,a,h=>by simp at h
 |y::l,h,q,a,hq=>by
  simp only[L4]at h;rw[List.flatten_cons]at hq;by_cases aV:q<y.length
  ·rw[iq aV]at hq;exact Ql h.1 q a hq
  ·rw[ji (by omega)]at hq;exact FK h.2 _ a hq
theorem ahK{a:AV}{t:ByteArray}(h:Cz E a (.string t))(hn:JX (.string t) a):False:=by
 cases h with
 |v=>simp only[JX]at hn;exact hn rfl
 |any=>simp only[JX]at hn
 |lB=>simp only[JX]at hn
structure Yn(E E':Env)(bo oo:Nat)(t:ByteArray):Prop where
 aI: ∀b o,E.aI b o→E'.aI b o
 dN: ∀b,E'.dN b=E.dN b
 cell: ∀b o,¬(b=bo∧o=oo)→aO E'.h b o=aO E.h b o
 was:aO E.h bo oo=some (.string t)
theorem Yn.bw{bo oo:Nat}{t:ByteArray}(k:Yn E E' bo oo t){b o:Nat}{a:AV}{x:Value}(hx:aO E.h b o=some x)(h:Cz E a x)(hn:JX (.string t) a):aO E'.h b o=some x:=by
 rw[k.cell b o fun hh=>by
  obtain⟨rfl,rfl⟩:=hh;rw[k.was]at hx;cases hx;exact ahK h hn]
 exact hx
theorem Cz.asx{bo oo:Nat}{t:ByteArray}(k:Yn E E' bo oo t){av:AV}{x:Value}(h:Cz E av x):JX (.string t) av→Cz E' av x:=by
 induction h with
 |v x=>exact fun _=> .v _
 |mq q A c=>exact fun _=> .mq _ _ _
 |sl q xs z b o c u hp hc hm dw hz hr hi hs hu hq ih=>
  intro hn;simp only[JX]at hn;exact .sl q xs z b o c u hp hc hm dw hz ((k.dN b).trans hr) hi (fun i a ha=>k.aI _ _ (hs i a ha)) (fun i a ha=>k.bw (hu i a ha) (hq i a ha) (FK hn i a ha)) (fun i a ha=>ih i a ha (FK hn i a ha))
 |_=>intro h;simp only[JX]at h
theorem Cz.slN{r:Nat}{xs ys:List (List AV)}{z b o n c:Nat}(h:Cz E (.sl r xs) (.slice (some ⟨b,o,none⟩) n c))(hx:0<xs.length)(hl:ys.length=xs.length)(hz: ∀l∈xs,l.length=z)(vF: ∀l∈ys,l.length=z)(h0:0<z)(er: ∀b o,E.aI b o→E'.aI b o)(W2: ∀b,E'.dN b=E.dN b)
  (hi: ∀(q:Nat) (a:AV),ys.flatten[q]? =some a→bX a=true)
  (hq: ∀(q:Nat) (a' a:AV) (x:Value),ys.flatten[q]? =some a'→xs.flatten[q]? =some a→aO E.h b (o+q)=some x→Cz E a x→ ∃y,aO E'.h b (o+q)=some y∧Cz E' a' y):Cz E' (.sl r ys) (.slice (some ⟨b,o,none⟩) n c):=by
 cases h with
 |mq=>simp at hx
 |sl _ _ z' _ _ _ u hp hc hm dw SF hr Xh hs hu hqq=>
  have hf:=aB hz
  have hf':=aB vF
  have get: ∀q a',ys.flatten[q]? =some a'→ ∃a,xs.flatten[q]? =some a:=fun q a' ha=>by
   have:=(bh.1 ha).1
   have aV:q<xs.flatten.length:=by rw[hf,←hl,←hf'];exact this
   exact⟨_,fp aV⟩
  have key: ∀q a',ys.flatten[q]? =some a'→ ∃y,aO E'.h b (o+q)=some y∧Cz E' a' y:=fun q a' ha=>by
   obtain⟨a,h1⟩:=get q a' ha;exact hq q a' a _ ha h1 (hu q a h1) (hqq q a h1)
  have:=Cz.sl (E:=E') r ys z b o c (fun q=>(aO E'.h b (o+q)).getD undef) (by omega) (by omega) hm h0 vF ((W2 b).trans hr) hi (fun q a' ha=>by obtain⟨a,h1⟩:=get q a' ha;exact er _ _ (hs q a h1))
   (fun q a' ha=>by obtain⟨y,h1,_⟩:=key q a' ha;rw[h1];rfl) (fun q a' ha=>by obtain⟨y,h1,h2⟩:=key q a' ha;rw[h1];exact h2)
  rw[hl]at this;exact this
end Ab
namespace Ab
open Go
variable{E:Env}{r n0:Nat}
 mutual
def upA(r:Nat):AV→AV
  | .sl _ xs=> .sl r (ER r xs)
  | .agg cs=> .agg (P3 r cs)
  | .gw cs=> .gw (P3 r cs)
  | .v x=> .v x
  |_=> .any
def P3(r:Nat):List AV→List AV
  |[]=>[]
  |a::l=>upA r a::P3 r l
def ER(r:Nat):List (List AV)→List (List AV)
  |[]=>[]
  |a::l=>P3 r a::ER r l
end
 mutual
def HiA:AV→Prop
  | .sl q xs=>1000000≤q∧Yr xs
  | .agg cs=>HiL cs
  | .gw cs=>HiL cs
  |_=>True
def HiL:List AV→Prop
  |[]=>True
  |a::l=>HiA a∧HiL l
def Yr:List (List AV)→Prop
  |[]=>True
  |a::l=>HiL a∧Yr l
end
theorem xE: ∀(l:List AV) (q:Nat),(P3 r l)[q]? =(l[q]?).map (upA r)
 |[],q=>by simp[P3]
 |a::l,q=>by cases q<;>simp[P3,xE l]
theorem Ed: ∀(l:List AV),(P3 r l).length=l.length
 |[]=>rfl
 |a::l=>by simp[P3,Ed l]
theorem Lf: ∀(l:List (List AV)),(ER r l).length=l.length
 |[]=>rfl
 |a::l=>by simp[ER,Lf l]
theorem Le{z:Nat}: ∀{l:List (List AV)},(∀x∈l,x.length=z)→ ∀x∈ER r l,x.length=z
 |[],_,x,h=>by simp[ER]at h
 |a::l,hz,x,h=>by
  simp only[ER,List.mem_cons]at h;rcases h with rfl|h
  ·rw[Ed];exact hz a (by simp)
  ·exact Le (fun y hy=>hz y (by simp[hy])) x h
theorem HA: ∀(l:List (List AV)),(ER r l).flatten=P3 r l.flatten
 |[]=>rfl
 |a::l=>by
  simp only[ER,List.flatten_cons,HA l]
  induction a with
  |nil=>simp[P3]
  |cons x a ih=>simp only[P3,List.cons_append];rw[←ih]
theorem EB: ∀{cs:List AV},HiL cs→ ∀(q:Nat) (a:AV),cs[q]? =some a→HiA a
 |[],_,q,a,h=>by simp at h
 |x::l,h,q,a,hq=>by
  simp only[HiL]at h;cases q with
  |zero=>simp at hq;subst hq;exact h.1
  |succ q=>exact EB h.2 q a (by simpa using hq)
theorem M4: ∀{xs:List (List AV)},Yr xs→ ∀(q:Nat) (a:AV),xs.flatten[q]? =some a→HiA a
 |[],_,q,a,h=>by simp at h
 |x::l,h,q,a,hq=>by
  simp only[Yr]at h;rw[List.flatten_cons]at hq;by_cases aV:q<x.length
  ·rw[iq aV]at hq;exact EB h.1 q a hq
  ·rw[ji (by omega)]at hq;exact M4 h.2 _ a hq
theorem Ka(r:Nat): ∀a:AV,bX a=true→bX (upA r a)=true
 | .sl _ _,_=>rfl
 | .v _,_=>rfl
 | .any,_=>rfl
 | .gs ..,_=>rfl
 | .aR ..,_=>rfl
 | .ptr ..,_=>rfl
 | .eW ..,_=>rfl
 | .ca ..,_=>rfl
 | .mp _,_=>rfl
 | .nM _,_=>rfl
 | .ar ..,_=>rfl
 | .fn ..,_=>rfl
 | .bm ..,_=>rfl
 | .lB ..,_=>rfl
 | .agg cs,h=>xP fun q b hb=>by
  have hb:(P3 r cs)[q]? =some b:=hb
  rw[xE]at hb;cases hc:cs[q]? with
  |none=>rw[hc]at hb;cases hb
  |some c=>rw[hc]at hb;cases hb;exact Ka r c (bf (show cr cs=true from h) q c hc)
 | .gw cs,h=>xP fun q b hb=>by
  have hb:(P3 r cs)[q]? =some b:=hb
  rw[xE]at hb;cases hc:cs[q]? with
  |none=>rw[hc]at hb;cases hb
  |some c=>rw[hc]at hb;cases hb;exact Ka r c (bf (show cr cs=true from h) q c hc)
 termination_by a=>sizeOf a
 decreasing_by all_goals(simp_wf;have:=List.sizeOf_lt_of_mem (jK hc);omega)
def Env.upE(E:Env)(reg':Nat→Nat):Env:={E with dN:=reg'}
theorem Cz.up{reg':Nat→Nat}(W2: ∀b,n0≤b→reg' b=r)(zy: ∀b o,E.aI b o→1000000≤E.dN b→n0≤b){av:AV}{x:Value}(h:Cz E av x):HiA av→Cz (E.upE reg') (upA r av) x:=by
 induction h with
 |v x=>exact fun _=> .v _
 |mq q A c=>exact fun _=> .mq _ _ _
 |sl q xs z b o c u hp hc hm dw hz hr hi hs hu hq ih=>
  intro hn;simp only[HiA]at hn;have hf:=aB hz
  obtain⟨a0,ha0⟩:=qR (l:=xs.flatten) (by rw[hf];exact Nat.mul_pos hp dw);have hb:=zy b _ (hs 0 a0 ha0) (by rw[hr];exact hn.1)
  have get: ∀q a,(ER r xs).flatten[q]? =some a→ ∃a',xs.flatten[q]? =some a'∧a=upA r a':=fun q a ha=>by
   rw[HA,xE]at ha;cases hx:xs.flatten[q]? with
   |none=>rw[hx]at ha;cases ha
   |some a'=>rw[hx]at ha;cases ha;exact⟨a',hx,rfl⟩
  have hl:=Lf (r:=r) xs
  have:=Cz.sl (E:=E.upE reg') r (ER r xs) z b o c u (by rw[hl];exact hp) (by rw[hl];exact hc) hm dw (Le hz) (W2 b hb)
   (fun i a ha=>by obtain⟨a',h1,rfl⟩:=get i a ha;exact Ka r a' (hi i a' h1)) (fun i a ha=>by obtain⟨a',h1,rfl⟩:=get i a ha;exact hs i a' h1) (fun i a ha=>by obtain⟨a',h1,rfl⟩:=get i a ha;exact hu i a' h1) (fun i a ha=>by obtain⟨a',h1,rfl⟩:=get i a ha;exact ih i a' h1 (M4 hn.2 i a' h1))
  rw[hl]at this;exact this
 |agg cs ys hl hq ih=>
  intro h;simp only[HiA]at h;refine .agg _ ys (by rw[Ed];exact hl) fun q a y ha hy=>?_;rw[xE]at ha;cases hc:cs[q]? with
  |none=>rw[hc]at ha;cases ha
  |some a0=>rw[hc]at ha;cases ha;exact ih q a0 y hc hy (EB h q a0 hc)
 |gw cs ys hl hq ih=>
  intro h;simp only[HiA]at h;refine .gw _ ys (by rw[Ed];exact hl) fun q a y ha hy=>?_;rw[xE]at ha;cases hc:cs[q]? with
  |none=>rw[hc]at ha;cases ha
  |some a0=>rw[hc]at ha;cases ha;exact ih q a0 y hc hy (EB h q a0 hc)
 |_=>exact fun _=> .any _
theorem vq.am5{P:Program}{f:Nat}{args:List AV}{res:AV}(h: ∀(g:Nat→Option Ob),(∀i,g i=none)→ ∀nx,vq P true f args g nx fun r1 g1 Ax=>KQ r1 res∧g1=g∧Ax=nx)(Xb:aeh args)(ya:HiA res)(aiJ:bX res=true)(g:Nat→Option Ob)(nx:Nat){r:Nat}(hr:r<1000000):
  lA P f args g nx (upA r res) g nx:=by
 intro hi E w vs hG hl hv;have hg:=FJ hG
 have aiD: ∀b,E.pU.dN b<1000000:=fun b=>by show(if E.dN b<1000000 then E.dN b else 0)<1000000;split<;>omega
 have hG1:xy E.pU w g nx:=⟨hG.heap,⟨hG.wf.aI,hG.wf.own,fun b o _ hr=>by have:=aiD b;omega⟩,hG.nl,hG.gl,hG.own,hG.gk,fun i ob hh=>(by rw[hg i]at hh;cases hh),hG.ng⟩
 refine(h g hg nx hi E.pU w vs hG1 (fun _ b o _=>aiD b) hl fun q a y ha hy=>(hv q a y ha hy).pU fun r hr=>oD (Xb r hr) q a ha).mono ?_
 rintro e w' ⟨r1,g',iP,x,E1,⟨e1,e2,e3⟩,e4,KT,hE,hS,hc,hir,Bw⟩
 subst e2;subst e3;have hx:Cz E1 res x:=xC e1 hc
 have hkr: ∀b,b<E.h.size→E1.dN b=E.pU.dN b:=fun b hb=>(hE.bw b hb (hG.ng b)).2.2.2
 have Ik:=hx.up (n0:=E.h.size) (r:=r) (reg':=fun b=>if b<E.h.size then E.dN b else r) (fun b hb=>if_neg (by omega)) (fun b o hs hr=>by
  rcases Nat.lt_or_ge b E.h.size with hb|hb
  ·have:=hkr b hb;have:=aiD b;omega
  ·exact hb) ya
 refine⟨x,E1.upE fun b=>if b<E.h.size then E.dN b else r,e4,⟨KT.heap,⟨KT.wf.aI,KT.wf.own,fun b o hs Bt=>?_⟩,KT.nl,KT.gl,KT.own,KT.gk,fun i ob hh=>(by rw[hg i]at hh;cases hh),KT.ng⟩,⟨hE.size,fun b o hs=>⟨(hE.aI b o hs).1,(hE.aI b o hs).2.1,by show(if b<E.h.size then E.dN b else r)=E.dN b;rw[if_pos (hG.wf.aI b o hs)]⟩,hE.live,fun b hb hn=>?_⟩,hS,Ik,Ka r res aiJ,Bw⟩
 ·have Bt:1000000≤(if b<E.h.size then E.dN b else r):=Bt
  by_cases hb:b<E.h.size
  ·rw[if_pos hb]at Bt;have hk:=hE.bw b hb (hG.ng b)
   obtain⟨c,e,h1⟩:=hG.wf.fz b o ((hk.2.2.1 o).1 hs) Bt;exact⟨c,e,hk.2.1.trans h1⟩
  ·rw[if_neg hb]at Bt;omega
 ·have hk:=hE.bw b hb hn
  exact⟨hk.1,hk.2.1,hk.2.2.1,by show(if b<E.h.size then E.dN b else r)=E.dN b;rw[if_pos hb]⟩
end Ab
namespace Ab
open Go
variable{P:Program}{L:nK}{E0 E:Env}{w0 w w':World}{s:St}{a:Act}{C:dx}
theorem KB{f:Nat}{fn:Func}{c:Code}(hf:P.funcs[f]? =some fn)(hb:fn.body=some c){vs:List Value}{Q:Ex→St→Prop}{R:Ending→World→Prop}
  (atG:c.wpIn (WF none) 0 P (Dr E0 w0 Q) {tmps:=vs.toArray++Array.replicate (fn.ntmps - vs.toArray.size) undef,defers:=[]} w)(hex: ∀k s',¬Q (.exit k) s')
  (Pf: ∀s' E' w' tmps,(Q .normal s'∨Q .ret s')→bq E0 E' w0 w' s' {tmps:=tmps,defers:=[]}→ ∃v,(results fn tmps).run P w'= .ok v w'∧R (.returned v) w'):Calls P f vs.toArray w R:=by
 refine(callsIn_wide (n:=0)).1 (callsIn_of_wp_marks (F:=Fence.wide) hf hb trivial ?_ rfl);refine wpIn_mono (F:=Fence.wide) atG fun e a w' hq=>?_;cases e with
 |normal=>obtain⟨s',E',h1,h2⟩:=hq;exact tA h2 fun E2 w2 h3=>Pf s' E2 w2 _ (.inl h1) h3
 |ret=>obtain⟨s',E',h1,h2⟩:=hq;exact tA h2 fun E2 w2 h3=>Pf s' E2 w2 _ (.inr h1) h3
 |exit k=>obtain⟨s',E',h1,h2⟩:=hq;exact absurd h1 (hex k s')
 |goto l=>exact hq.elim
 |panic c=>exact hq.elim
 |outgrown=>exact hq.elim
theorem vq.ofRaw(ok:Ok P C){f:Nat}{fn:Func}{c:Code}(hf:P.funcs[f]? =some fn)(hb:fn.body=some c){args:List AV}{g:Nat→Option Ob}{nx:Nat}
  (hn:args.length≤fn.ntmps){R:AV→(Nat→Option Ob)→Nat→Prop}(fl:Bool)
  (hk: ∀{E0 E:Env} {w:World} {a:Act},bq E0 E w w (init fn.ntmps args g nx fl) a→c.wpIn (WF none) 0 P (Dr E0 w (post C fn.results.toList R)) a w):vq P fl f args g nx R:=by
 intro hi E w vs hG fS hl hv;refine KB hf hb (hk (Mw hG fS hl hn hv)) (fun k s' h=>h) fun s' E1 w' tmps hq h=>?_;have hr:G6 C fn.results.toList s' R:=hq.elim id id
 unfold G6 at hr;cases h1:s8 C.L s' fn.results.toList with
 |none=>rw[h1]at hr;exact hr.elim
 |some vs=>
  rw[h1]at hr;dsimp only at hr;cases h2:kF C.ρ (kX vs) s' with
  |none=>rw[h2]at hr;exact hr.elim
  |some s1=>
   rw[h2]at hr;dsimp only at hr;cases h3:s8 C.L s1 fn.results.toList with
   |none=>rw[h3]at hr;exact hr.elim
   |some NH=>
    rw[h3]at hr;obtain⟨hrp,kY,hR⟩:=hr;rw[Cg]at hR;obtain⟨E2,zx,_⟩:=eZ h h2;obtain⟨x,h4,h5⟩:=sA ok zx h3 hrp;have Xg:Ab.bX (single (NH.map rd))=true:=by
     unfold single
     split
     ·rename_i v hv;rw[hv]at kY;simp only[cr,Bool.and_true]at kY;exact kY
     ·exact kY
    refine⟨x,h4,_,_,_,x,E2.mask,hR,rfl,zx.mask,?_,zx.same,?_,?_,fun b hb=>?_⟩
    ·refine⟨zx.ext.size,zx.ext.aI,fun k hk=>?_,fun b hb hg=>?_⟩
     ·cases k with
      |s d=>exact absurd hk (hG.nl (.s d) rfl)
      |r d j=>exact absurd hk (hG.nl (.r d j) rfl)
      |o i=>obtain⟨k1,k2,k3⟩:=zx.ext.live _ hk;exact⟨⟨rfl,k1⟩,k2,k3⟩
     ·obtain⟨k1,k2,k3,k4⟩:=zx.ext.bw b hb hg;refine⟨?_,k2,k3,k4⟩;simp only[Env.mask];have k1':E2.own b=E.own b:=k1
      rw[k1',hG.own b];rfl
    ·refine(AH E2).bX ?_ ?_
     ·have h6:single (NH.map rd)=rd (single NH):=by
       unfold single;cases NH with
       |nil=>rfl
       |cons v r=>cases r with
        |nil=>rfl
        |cons v2 r2=>
         simp only[List.map_cons,rd,rA];rw[show mc (fun _=>true) (v::v2::r2)=(v::v2::r2).map (rA fun _=>true)from by
          generalize v::v2::r2=l
          induction l with
          |nil=>rfl
          |cons x l ih=>simp[mc,ih]]
         rfl
      rw[h6];exact(Cz.ext (Ext.refl (fun _=>False) E2) zx.wf (fun _=>true) (fun _ h=>h.elim) h5).1
     ·exact Xg
    ·exact Xg
    ·have k2:=(zx.ext.bw b (by show b<E.h.size;rw[←hG.heap];exact hb) (hG.ng b)).2.1
     rw[zx.heap,hG.heap];exact k2
end Ab
namespace Ab
open Go
section
variable{α R S A:Type}
theorem uH(k:IntKind)(n:Int):al.wrap k n=k.wrap n:=rfl
theorem yF(a b:Int):al.add a b=a+b:=rfl
theorem adu(a b:Int):al.sub a b=a - b:=rfl
theorem cD(a b:Int):al.aU a b=decide (a=b):=rfl
theorem cX(a b:Int):al.bg a b=decide (a<b):=rfl
theorem LQ(a b:Int):al.uT a b=decide (a≤b):=rfl
theorem qb(a b:ByteArray):al.seq a b=decide (a=b):=rfl
theorem cw(a:Bool):al.not a= !a:=rfl
theorem bZ(c a b:Bool):al.pick c a b=(bif c then a else b):=rfl
theorem OJ{α:Type}(l:List α):Md.al.ln l=l.length:=rfl
theorem kb(l:List α):au l=(l.length:Int):=rfl
theorem bJ{body:(S→Option R)→S→Option R}(mk:A→Nat→S)(G:A→List α→Nat→Option R)(P:A→Nat→Prop)(l:List α)(hl:l.length≤9223372036854775806)
  (h1: ∀(self:S→Option R) (a:A) (i:Nat) (x:α) (r:List α),P a i→l.drop i=x::r→i<l.length→gI l (i:Int)=some x→al.bg (i:Int) (au l)=true→al.wrap .i64 (al.add (i:Int) 1)=((i+1:Nat):Int)→
   (∀a',P a' (i+1)→self (mk a' (i+1))=G a' r (i+1))→body self (mk a i)=G a (x::r) i)
  (h2: ∀(self:S→Option R) (a:A),P a l.length→al.bg (l.length:Int) (au l)=false→body self (mk a l.length)=G a [] l.length)(n:Nat)(hn:l.length<n)(a:A)(ha:P a 0):iter body n (mk a 0)=G a l 0:=by
 have key: ∀(r:List α) (i n:Nat) (a:A),P a i→l.drop i=r→i≤l.length→r.length<n→iter body n (mk a i)=G a r i:=by
  intro r
  induction r with
  |nil=>
   intro i n a hp hd hi hn;obtain⟨m,rfl⟩: ∃m,n=m+1:=⟨n - 1,by simp at hn;omega⟩;have Ni:l.length≤i:=by simpa using hd
   have:i=l.length:=by omega
   subst this;exact h2 _ a hp (by show decide ((l.length:Int)<l.length)=false;simp)
  |cons x r ih=>
   intro i n a hp hd hi hn;obtain⟨m,rfl⟩: ∃m,n=m+1:=⟨n - 1,by simp at hn;omega⟩;have aV:i<l.length:=by
    rcases Nat.lt_or_ge i l.length with h|h
    ·exact h
    ·rw[List.drop_eq_nil_of_le h]at hd;cases hd
   have hx:l[i]? =some x:=by
    have:=List.getElem?_drop (xs:=l) (i:=i) (j:=0)
    rw[hd]at this;simpa using this.symm
   have nN:l.drop (i+1)=r:=by
    have:(l.drop i).drop 1=l.drop (i+1):=by rw[List.drop_drop]
    rw[←this,hd];rfl
   refine h1 _ a i x r hp hd aV (by unfold gI;rw[if_pos (by omega)];simpa using hx) (by show decide ((i:Int)<l.length)=true;simp;omega) (by show IntKind.wrap .i64 ((i:Int)+1)=_;rw[jB (by omega)];rfl) fun a' hp'=>?_;exact ih (i+1) m a' hp' nN aV (by simp at hn;omega)
 exact key l 0 n a ha rfl (Nat.zero_le _) hn
theorem kf{body:(Int→Option R)→Int→Option R}(G:List α→Nat→Option R)(l:List α)(hl:l.length≤9223372036854775806)
  (h1: ∀(self:Int→Option R) (i:Nat) (x:α) (r:List α),l.drop i=x::r→i<l.length→gI l (i:Int)=some x→al.bg (i:Int) (au l)=true→al.wrap .i64 (al.add (i:Int) 1)=((i+1:Nat):Int)→
   self ((i+1:Nat):Int)=G r (i+1)→body self (i:Int)=G (x::r) i)
  (h2: ∀(self:Int→Option R),al.bg (l.length:Int) (au l)=false→body self (l.length:Int)=G [] l.length)(n:Nat)(hn:l.length<n):iter body n 0=G l 0:=
 bJ (A:={u:Unit // True}) (mk:=fun _ i=>(i:Int)) (fun _=>G) (fun _ _=>True) l hl (fun self _ i x r _ hd hi e1 e2 e3 ih=>h1 self i x r hd hi e1 e2 e3 (ih ⟨(),trivial⟩ trivial)) (fun self _ _ e=>h2 self e) n hn ⟨(),trivial⟩ trivial
theorem dG{l:List α}{i:Nat}:gI l (i:Int)=l[i]? :=by simp[gI]
theorem K7{n:Nat}(h:n≤9223372036854775807):IntKind.wrap .i64 (n:Int)=n:=jB (by omega)
theorem kA{n:Nat}(h:n<9223372036854775807):IntKind.wrap .i64 ((n:Int)+1)=((n+1:Nat):Int):=by rw[jB (by omega)];rfl
def iI(q:α→Bool)(l:List α):Int:=match l.findIdx? q with|some i=>(i:Int)|none=> -1
theorem gO(q:α→Bool)(l:List α):iI q l<l.length:=by
 unfold iI;cases h:l.findIdx? q with
 |none=>simp;omega
 |some i=>have:=(List.findIdx?_eq_some_iff_getElem.1 h).1;simp;omega
theorem QA(q:α→Bool)(l:List α): -1≤iI q l:=by
 unfold iI
 split<;>omega
theorem wS(q:α→Bool)(l:List α):decide (0≤iI q l)=l.any q:=by
 unfold iI;cases h:l.findIdx? q with
 |none=>
  have:=List.findIdx?_eq_none_iff.1 h
  have:l.any q=false:=by rw[List.any_eq_false];intro x hx;simp[this x hx]
  rw[this];rfl
 |some i=>
  obtain⟨h1,h2,_⟩:=List.findIdx?_eq_some_iff_getElem.1 h;have:l.any q=true:=List.any_eq_true.2 ⟨l[i],List.getElem_mem h1,h2⟩
  rw[this];simp
def FW(p:α→Option Bool)(l:List α)(self:Int→Option Int)(z:Int):Option Int:=
 bif al.bg z (au l)then(gI l z).bind fun x=>(p x).bind fun y=>bif y then some z else self (al.wrap .i64 (al.add z 1))else some (-1)
theorem db{p:α→Option Bool}(q:α→Bool){l:List α}(hp: ∀x∈l,p x=some (q x)){n:Nat}(hn:l.length<n)(hl:l.length≤9223372036854775806):iter (FW p l) n 0=some (iI q l):=by
 have:=kf (R:=Int) (body:=FW p l) (fun r i=>match r.findIdx? q with|some j=>some ((i+j:Nat):Int)|none=>some (-1)) l hl ?_ ?_ n hn
 ·refine this.trans ?_;unfold iI;cases l.findIdx? q<;>simp
 ·intro self i x r hd hi e1 e2 e3 ih;have hx:p x=some (q x):=hp x (List.mem_of_mem_drop (i:=i) (by rw[hd];simp))
  unfold FW;rw[e2,aE,e1,aw,hx,aw,e3,List.findIdx?_cons];cases hq:q x with
  |true=>simp
  |false=>
   rw[aM,ih];cases r.findIdx? q<;>simp;omega
 ·intro self e;unfold FW;rw[e];rfl
theorem cW{o:Option Int}{q:α→Bool}{l:List α}(h:o=some (iI q l)):(o.bind fun y=>some (al.uT 0 y))=some (l.any q):=by
 rw[h,aw,LQ,wS]
theorem wX{g:Bool}{b:Bool}{x:Option α}{d y:α}(h:g=b→x=some y):fN g b x d=some (if g=b then y else d):=by
 unfold fN;by_cases hg:g=b
 ·subst hg;simp[h rfl]
 ·have:(g==b)=false:=by simpa using hg
  rw[this,if_neg hg];rfl
theorem GZ{g:Bool}{x:Option α}{d y:α}(h:g=true→x=some y):fN g true x d=some (bif g then y else d):=by
 unfold fN;cases g with
 |true=>simpa using h rfl
 |false=>rfl
theorem SV{g:Bool}{x:Option α}{d y:α}(h:g=false→x=some y):fN g false x d=some (bif g then d else y):=by
 unfold fN;cases g with
 |false=>simpa using h rfl
 |true=>rfl
def jA{β:Type}(q:α→β→Bool):List α→List β→Bool
 |x::r,y::s=>q x y&&jA q r s
 |[],[]=>true
 |_,_=>false
theorem sr{l:List α}{i:Nat}{x:α}{r:List α}(h:l.drop i=x::r):gI l (i:Int)=some x:=by
 have:=List.getElem?_drop (xs:=l) (i:=i) (j:=0)
 rw[h]at this;unfold gI;rw[if_pos (by omega)];simpa using this.symm
theorem xt{β:Type}{q:α→β→Bool}: ∀{l:List α} {m:List β},l.length≠m.length→jA q l m=false
 |[],[],h=>absurd rfl h
 |[],_::_,_=>rfl
 |_::_,[],_=>rfl
 |x::r,y::s,h=>by simp only[jA];rw[xt (l:=r) (m:=s) (by simpa using h),Bool.and_false]
theorem vp[DecidableEq α]: ∀{l m:List α},jA (fun x y=>decide (x=y)) l m=decide (l=m)
 |[],[]=>rfl
 |[],_::_=>rfl
 |_::_,[]=>rfl
 |x::r,y::s=>by simp only[jA,vp (l:=r) (m:=s),List.cons.injEq];by_cases h:x=y<;>by_cases h2:r=s<;>simp[h,h2]
theorem b8{b:Nat}{l:List α}{x:α}(hb:b≤64)(hl:l.length≤1099511627775):aQ b l x=some (l++[x]):=by
 unfold aQ;rw[if_pos];refine⟨?_,by omega⟩
 calc (l.length+1)*b≤(l.length+1)*64:=Nat.mul_le_mul_left _ hb
  _≤70368744177664:=by omega
theorem Rb{b:Nat}{l m:List α}(hb:b≤64)(hl:l.length+m.length≤1099511627775):KE b l m=some (l++m):=by
 unfold KE;rw[if_pos];refine⟨?_,by omega⟩
 calc (l.length+m.length)*b≤(l.length+m.length)*64:=Nat.mul_le_mul_left _ hb
  _≤70368744177664:=by omega
theorem OV{b:Nat}{k:Nat}{x:α}(hb:b≤64)(hl:k≤1099511627775):DI b (k:Int) x=some (List.replicate k x):=by
 unfold DI;rw[if_pos]
 ·simp
 ·refine⟨by omega,by omega,?_⟩;have:(k:Int)*b≤(k:Int)*64:=Int.mul_le_mul_of_nonneg_left (by omega) (by omega)
  omega
theorem Ei{l:List α}{k:Nat}{x:α}(h:k<l.length):nO l k x=some (l.set k x):=if_pos h
theorem QQ{m:Nat}{z:Int}(h:0≤z)(h2:z<m):gN m z=some z.toNat:=if_pos ⟨h,h2⟩
theorem fT{m i:Nat}(h:i<m):gN m (i:Int)=some i:=by rw[QQ (by omega) (by omega)];simp
theorem Xx{l:List α}{z:Int}(h:0≤z)(h2:z.toNat<l.length):gI l z=some l[z.toNat]:=by unfold gI;rw[if_pos h];simp[h2]
theorem Xw{l:List α}{k:Nat}(h:k<l.length):gK l k=some l[k]:=by unfold gK;simp[h]
theorem sP{n:Nat}{l:List α}(h:l.length=n):lx n l=some ():=if_pos h
theorem AO{n:Nat}{l:List α}(h:n=l.length):eQ n l=some ():=if_pos h
theorem Cp{l:List α}{k:Nat}(h:k≤l.length):Gv l 0 (k:Int)=some (l.take k):=by
 unfold Gv;rw[if_pos ⟨by omega,by omega,by omega⟩];simp
theorem S2{l:List α}{k:Nat}(h:k≤l.length):Gv l (k:Int) (au l)=some (l.drop k):=by
 unfold Gv au;rw[if_pos ⟨by omega,by omega,by omega⟩];simp
end
end Ab
namespace Ab
open Go
set_option maxRecDepth 10000
def opS(o:aH):Prop:=o.name.size≤40∧o.args.length≤9
def brS(x:ah):Prop:=x.head.size≤40∧x.ops.length≤70∧ ∀o∈x.ops,opS o
def blS(b:ai):Prop:=b.name.size≤40∧b.ae.length≤9∧ ∀x∈b.ae,brS x
def coS(c:af):Prop:=c.ab.length≤16∧ ∀b∈c.ab,blS b
def PB(o:aH):Bool:=decide (40<o.name.size)||decide (9<o.args.length)
def PA(x:ah):Bool:=(decide (40<x.head.size)||decide (70<x.ops.length))||x.ops.any PB
def PC(b:ai):Bool:=(decide (40<b.name.size)||decide (9<b.ae.length))||b.ae.any PA
def Yf(c:af):Bool:=decide (16<c.ab.length)||c.ab.any PC
theorem hD(a b:Bool):(bif a then true else b)=(a||b):=by cases a<;>rfl
theorem nJ(a b:Bool):(bif a then b else false)=(a&&b):=by cases a<;>rfl
theorem uI(a b:Nat):decide ((a:Int)<(b:Int))=decide (a<b):=by simp
theorem abK(a b:Nat):decide ((a:Int)=(b:Int))=decide (a=b):=by simp[Int.ofNat_inj]
theorem avQ(n:Nat)(o:aH):jf al .al n o=some (PB o):=by
 unfold jf PB;simp only[aw,cX,bZ,au,lF,hD];rw[show(40:Int)=((40:Nat):Int)from rfl,show(9:Int)=((9:Nat):Int)from rfl,uI,uI]
theorem apm{n:Nat}{l:List aH}(h:l.length<n)(h':l.length≤100):fQ al .al n l=some (l.any PB):=
 cW (db (p:=jf al .al n) PB (fun x _=>avQ n x) h (by omega))
theorem avP{n:Nat}(hn:100<n)(x:ah):lP al .al n x=some (PA x):=by
 unfold lP PA;simp only[aw,cX,bZ,au,lF,hD];rw[show(40:Int)=((40:Nat):Int)from rfl,show(70:Int)=((70:Nat):Int)from rfl,uI,uI];rw[wX (y:=x.ops.any PB) fun hg=>apm (by simp at hg;omega) (by simp at hg;omega)];cases hg:(decide (40<x.head.size)||decide (70<x.ops.length))<;>simp
theorem apl{n:Nat}(hn:100<n){l:List ah}(h':l.length≤9):ef al .al n l=some (l.any PA):=
 cW (db (p:=lP al .al n) PA (fun x _=>avP hn x) (by omega) (by omega))
theorem avO{n:Nat}(hn:100<n)(x:ai):oU al .al n x=some (PC x):=by
 unfold oU PC;simp only[aw,cX,bZ,au,lF,hD];rw[show(40:Int)=((40:Nat):Int)from rfl,show(9:Int)=((9:Nat):Int)from rfl,uI,uI];rw[wX (y:=x.ae.any PA) fun hg=>apl hn (by simp at hg;omega)];cases hg:(decide (40<x.name.size)||decide (9<x.ae.length))<;>simp
theorem apk{n:Nat}(hn:100<n){l:List ai}(h':l.length≤16):eI al .al n l=some (l.any PC):=
 cW (db (p:=oU al .al n) PC (fun x _=>avO hn x) (by omega) (by omega))
theorem akv{n:Nat}(hn:100<n)(c:af):xN al .al n c=some (Yf c):=by
 unfold xN Yf;simp only[aw,cX,bZ,au,lF,hD];rw[show(16:Int)=((16:Nat):Int)from rfl,uI];rw[wX (y:=c.ab.any PC) fun hg=>apk hn (by simp at hg;omega)];cases hg:(decide (16<c.ab.length))<;>simp
theorem S8{c:af}(h:Yf c=false):coS c:=by
 simp only[Yf,PC,PA,PB,Bool.or_eq_false_iff,decide_eq_false_iff_not,Nat.not_lt,List.any_eq_false,Bool.not_eq_true,Bool.or_eq_true,not_or,decide_eq_true_eq,List.any_eq_true,not_exists,not_and]at h;exact⟨h.1,fun b hb=>⟨(h.2 b hb).1.1,(h.2 b hb).1.2,fun x hx=>⟨((h.2 b hb).2 x hx).1.1,((h.2 b hb).2 x hx).1.2,fun o ho=>((h.2 b hb).2 x hx).2 o ho⟩⟩⟩
theorem aku{n:Nat}{l:List Int}(h:l.length≤1000):se al .al n l=some l:=by
 unfold se;rw[Rb (by omega) (by simp;omega)];rfl
theorem asy{n:Nat}(hn:100<n){x:ah}(hx:brS x)(k:List aH×Int→Option af):iter (mC al .al n (au x.ops) x k) n ([],0)=k (x.ops,(x.ops.length:Int)):=by
 have:=bJ (body:=mC al .al n (au x.ops) x k) (mk:=fun a i=>(a,(i:Int))) (fun a r i=>k (a++r,(x.ops.length:Int))) (fun a i=>a.length=i) x.ops (by have:=hx.2.1;omega) ?_ ?_ n (by have:=hx.2.1;omega) [] rfl
 ·simpa using this
 ·intro self a i o r ha hd hi e1 e2 e3 ih;have ho:=hx.2.2 o (List.mem_of_mem_drop (i:=i) (by rw[hd];simp))
  have hl:=hx.2.1
  simp only[mC,e2,aE,e1,aw,aku (show o.args.length≤1000 by have:=ho.2;omega)];rw[b8 (by omega) (by omega),aw,e3,ih _ (by simp[ha])];simp
 ·intro self a ha e;simp only[mC,e,aM];simp
theorem asA{n:Nat}(hn:100<n){b:ai}(hb:blS b)(k:List ah×Int→Option af):iter (mD al .al n (au b.ae) b k) n ([],0)=k (b.ae,(b.ae.length:Int)):=by
 have:=bJ (body:=mD al .al n (au b.ae) b k) (mk:=fun a i=>(a,(i:Int))) (fun a r i=>k (a++r,(b.ae.length:Int))) (fun a i=>a.length=i) b.ae (by have:=hb.2.1;omega) ?_ ?_ n (by have:=hb.2.1;omega) [] rfl
 ·simpa using this
 ·intro self a i o r ha hd hi e1 e2 e3 ih;have ho:=hb.2.2 o (List.mem_of_mem_drop (i:=i) (by rw[hd];simp))
  have hl:=hb.2.1
  simp only[mD,e2,aE,e1,aw,asy hn ho];rw[b8 (by omega) (by omega),aw,e3,ih _ (by simp[ha])];simp
 ·intro self a ha e;simp only[mD,e,aM];simp
theorem akp{n:Nat}(hn:100<n){c:af}(hc:coS c):tB al .al n c=some c:=by
 unfold tB;rw[aw];have:=bJ (body:=oT al .al n c (au c.ab) (fun(vE,D8)=>some (⟨vE⟩:af))) (mk:=fun a i=>(a,(i:Int))) (fun a r i=>some ⟨a++r⟩) (fun a i=>a.length=i) c.ab (by have:=hc.1;omega) ?_ ?_ n (by have:=hc.1;omega) [] rfl
 ·simpa using this
 ·intro self a i o r ha hd hi e1 e2 e3 ih;have ho:=hc.2 o (List.mem_of_mem_drop (i:=i) (by rw[hd];simp))
  have hl:=hc.1
  simp only[oT,e2,aE,e1,aw,asA hn ho];rw[b8 (by omega) (by omega),aw,e3,ih _ (by simp[ha])];simp
 ·intro self a ha e;simp only[oT,e,aM];simp
def qp(c:UInt8):Bool:=decide (97≤c.toNat)&&decide (c.toNat≤122)
def cd(s:ByteArray):List UInt8:=s.data.toList
def eU(s:ByteArray):Bool:=(decide (1≤s.size)&&decide (s.size≤8))&&(cd s).all qp
theorem GB(s:ByteArray):(cd s).length=s.size:=rfl
theorem Pm(s:ByteArray)(i:Nat):gB s (i:Int)=(cd s)[i]?.map fun c=>(c.toNat:Int):=by
 unfold gB;rw[if_pos (by omega)];have:s[(i:Int).toNat]? =(cd s)[i]? :=by
  simp only[cd,Int.toNat_natCast];by_cases h:i<s.size
  ·rw[getElem?_pos s i h,fp (by simpa[←ByteArray.size_data]using h)];rfl
  ·rw[getElem?_neg s i h,List.getElem?_eq_none (by simpa[←ByteArray.size_data]using h)]
 rw[this]
theorem Xy{s:ByteArray}{i:Nat}{c:UInt8}(h:gI (cd s) (i:Int)=some c):gB s (i:Int)=some (c.toNat:Int):=by
 rw[Pm,←dG,h];rfl
theorem wo{n:Nat}(hn:100<n)(s:ByteArray):mu al .al n s=some (eU s):=by
 unfold mu BK eU;simp only[aw,cX,bZ,lF,hD];by_cases hs:1≤s.size∧s.size≤8
 ·have h1:(decide ((s.size:Int)<1)||decide ((8:Int)<s.size))=false:=by simp;omega
  rw[h1,aM,bH hs.1,bH hs.2,Bool.true_and,Bool.true_and];refine kf (R:=Bool) (fun r i=>some (r.all qp)) (cd s) (by rw[GB];omega) ?_ ?_ n (by rw[GB];omega)
  ·intro self i c r hd hi e1 e2 e3 ih;have hz:lF s=au (cd s):=rfl
   simp only[oB,hz,aw,e2,aE,Xy e1,e3,ih,wX (fun _=>rfl)];simp only[cX,bZ,hD,List.all_cons];by_cases h1:(c.toNat:Int)<97
   ·have:qp c=false:=by unfold qp;simp;omega
    simp[h1,this]
   ·by_cases h2:(122:Int)<c.toNat
    ·have:qp c=false:=by unfold qp;simp;omega
     have h3:(97:Int)≤c.toNat:=by omega
     simp[h1,h2,h3,this]
    ·have:qp c=true:=by unfold qp;simp;omega
     have h3:(97:Int)≤c.toNat:=by omega
     simp[h1,h2,h3,this]
  ·intro self e;have hz:lF s=au (cd s):=rfl
   simp only[oB,hz,aw,e,aM];rfl
 ·have h1:(decide ((s.size:Int)<1)||decide ((8:Int)<s.size))=true:=by simp;omega
  have h2:(decide (1≤s.size)&&decide (s.size≤8))=false:=by simp;omega
  rw[h1,aE,h2,Bool.false_and]
def xM:ByteArray:=⟨#[97,98,99,100,101,102,103,104,105,106,107,108,109,110,111,112,113,114,115,116,117,118,119,120,121,122]⟩
def xX:List Bool:=(List.range 256).map fun i=>decide (97≤i)&&decide (i≤122)
theorem aab(m:Nat):jQ al .al (m+30) xM=some (xX,true):=by kernel_rfl
theorem Ug{c:UInt8}:gK xX c.toNat=some (qp c):=by
 have h:=c.toNat_lt
 unfold gK xX qp;simp[h]
theorem alA(k:ByteArray→Option ByteArray): ∀(m:Nat) (z:ByteArray) (n:Nat),z.size=m→m<n→m≤1000→ ∃t,iter (cQ al .al 0 (xX,true) k) n z=k t∧t.size≤m∧((cd z).all qp=true→t.size=0)∧((cd z).all qp=false→(cd t).all qp=false):=by
 intro m
 induction m with
 |zero=>
  intro z n hz hn hm;obtain⟨n,rfl⟩: ∃j,n=j+1:=⟨n - 1,by omega⟩;refine⟨z,?_,by omega,fun _=>hz,fun h=>h⟩;show cQ al .al 0 (xX,true) k _ z=k z;simp[cQ,lF,hz,cX]
 |succ m ih=>
  intro z n hz hn hm;obtain⟨n,rfl⟩: ∃j,n=j+1:=⟨n - 1,by omega⟩;have hlen:(cd z).length=m+1:=hz
  have Xd:(cd z)[m]? =some ((cd z)[m]'(by omega)):=fp _
  generalize hc:(cd z)[m]'(by omega)=c at Xd;have wT:al.wrap .i64 (al.sub ((m+1:Nat):Int) 1)=(m:Int):=by show IntKind.wrap .i64 (((m+1:Nat):Int) - 1)=_;rw[show(((m+1:Nat):Int) - 1)=(m:Int)by omega];exact K7 (by omega)
  have hg:gB z (m:Int)=some (c.toNat:Int):=by rw[Pm,Xd];rfl
  have aV:al.bg 0 ((m+1:Nat):Int)=true:=by rw[cX];exact bH (by omega)
  show∃t,cQ al .al 0 (xX,true) k (iter (cQ al .al 0 (xX,true) k) n) z=k t∧_;simp only[cQ,lF,hz,aw,aV,aE,wT,hg,fT (show c.toNat<256 from c.toNat_lt),Ug,cw];have Kc:cd z=(cd z).take m++[c]:=by
   rw[←hc,List.take_append_getElem,List.take_of_length_le (by omega)]
  cases hq:qp c with
  |false=>
   refine⟨z,by simp,by omega,fun h=>?_,fun h=>h⟩;rw[Kc,List.all_append]at h;simp[hq]at h
  |true=>
   have aiT:Gx z 0 (m:Int)=some (z.extract 0 m):=by
    unfold Gx;rw[if_pos ⟨by omega,by omega,by omega⟩];simp
   obtain⟨t,h1,h2,h3,h4⟩:=ih (z.extract 0 m) n (by rw[ByteArray.size_extract];omega) (by omega) (by omega);have hb:cd (z.extract 0 m)=(cd z).take m:=by
    unfold cd;rw[ByteArray.data_extract,Array.toList_extract,List.extract_eq_take_drop];simp
   have jN:(cd z).all qp=(cd (z.extract 0 m)).all qp:=by
    conv=>lhs;rw[Kc]
    rw[List.all_append,hb];simp[hq]
   refine⟨t,?_,by omega,fun h=>h3 (by rw[←jN];exact h),fun h=>h4 (by rw[←jN];exact h)⟩;simp only[Bool.not_true,aM,aiT,aw];exact h1
theorem alz(k:ByteArray→Option ByteArray): ∀(m:Nat) (z:ByteArray) (n:Nat),z.size=m→m<n→m≤1000→ ∃t,iter (cj al .al 0 (xX,true) k) n z=k t∧t.size≤m∧((cd z).all qp=true→t.size=0)∧((cd z).all qp=false→(cd t).all qp=false):=by
 intro m
 induction m with
 |zero=>
  intro z n hz hn hm;obtain⟨n,rfl⟩: ∃j,n=j+1:=⟨n - 1,by omega⟩;refine⟨z,?_,by omega,fun _=>hz,fun h=>h⟩;show cj al .al 0 (xX,true) k _ z=k z;simp[cj,lF,hz,cX]
 |succ m ih=>
  intro z n hz hn hm;obtain⟨n,rfl⟩: ∃j,n=j+1:=⟨n - 1,by omega⟩;have hlen:(cd z).length=m+1:=hz
  obtain⟨c,r,hcr⟩: ∃c r,cd z=c::r:=by
   cases h:cd z with
   |nil=>rw[h]at hlen;simp at hlen
   |cons c r=>exact⟨c,r,rfl⟩
  have hg:gB z 0=some (c.toNat:Int):=by have:=Pm z 0;rw[hcr]at this;exact this
  have aV:al.bg 0 ((m+1:Nat):Int)=true:=by rw[cX];exact bH (by omega)
  show∃t,cj al .al 0 (xX,true) k (iter (cj al .al 0 (xX,true) k) n) z=k t∧_;simp only[cj,lF,hz,aw,aV,aE,hg,fT (show c.toNat<256 from c.toNat_lt),Ug,cw];cases hq:qp c with
  |false=>
   refine⟨z,by simp,by omega,fun h=>?_,fun h=>h⟩;rw[hcr]at h;simp[hq]at h
  |true=>
   have aiT:Gx z 1 ((m+1:Nat):Int)=some (z.extract 1 (m+1)):=by
    unfold Gx;rw[if_pos ⟨by omega,by omega,by omega⟩];rfl
   obtain⟨t,h1,h2,h3,h4⟩:=ih (z.extract 1 (m+1)) n (by rw[ByteArray.size_extract];omega) (by omega) (by omega);have hb:cd (z.extract 1 (m+1))=r:=by
    have:cd (z.extract 1 (m+1))=(cd z).extract 1 (m+1):=by
     unfold cd;rw[ByteArray.data_extract,Array.toList_extract]
    rw[this,hcr,List.extract_eq_take_drop];have hr:r.length=m:=by rw[hcr]at hlen;simpa using hlen
    simp[hr];rw[←hr];simp
   have jN:(cd z).all qp=(cd (z.extract 1 (m+1))).all qp:=by
    rw[hcr,hb];simp[hq]
   refine⟨t,?_,by omega,fun h=>h3 (by rw[←jN];exact h),fun h=>h4 (by rw[←jN];exact h)⟩;simp only[Bool.not_true,aM,aiT,aw];exact h1
theorem RD{s:ByteArray}:s.size=0↔s=⟨#[]⟩:=by
 constructor
 ·intro h;obtain⟨⟨l⟩⟩:=s;have:l.length=0:=h
  cases l with
  |nil=>rfl
  |cons a r=>simp at this
 ·rintro rfl;rfl
theorem acW{n:Nat}(hn:100<n){s:ByteArray}(hs:s.size≤50): ∃t,kC al .al n s xM=some t∧((cd s).all qp=true↔t=⟨#[]⟩):=by
 obtain⟨m,rfl⟩: ∃m,n=m+30:=⟨n - 30,by omega⟩;unfold kC;have hl:al.seq xM ⟨#[]⟩=false:=by kernel_rfl
 have hz:lF xM=26:=by kernel_rfl
 rw[hl,hz];simp only[bZ,qb,aw,cD];by_cases h0:s=⟨#[]⟩
 ·subst h0;refine⟨⟨#[]⟩,rfl,?_⟩;simp[cd]
 ·rw[bT h0,aM,aM];have hd:decide ((26:Int)=1)=false:=by decide
  simp only[hd,aM];obtain⟨t1,a1,a2,a3,a4⟩:=alA (fun fc=>iter (cj al .al 0 (xX,true) (fun ED=>some ED)) (m+30) fc) s.size s (m+30) rfl (by omega) (by omega);obtain⟨t2,b1,b2,b3,b4⟩:=alz (fun ED=>some ED) t1.size t1 (m+30) rfl (by omega) (by omega);refine⟨t2,?_,?_⟩
  ·simp only[fN,show((false==true)=false)from rfl,aM,aw,aab,lx,List.length_replicate,if_true,aE];have:iter (cQ al Md.al (m+30) (xX,true) fun fc=>iter (cj al Md.al (m+30) (xX,true) fun ED=>some ED) (m+30) fc) (m+30) s=iter (cQ al .al 0 (xX,true) fun fc=>iter (cj al .al 0 (xX,true) (fun ED=>some ED)) (m+30) fc) (m+30) s:=rfl
   rw[this,a1];exact b1
  ·cases jN:(cd s).all qp with
   |true=>
    have e1:=a3 jN
    have e2:t2.size=0:=by omega
    exact⟨fun _=>RD.1 e2,fun _=>rfl⟩
   |false=>
    have e2:=b4 (a4 jN)
    refine⟨(fun h=>by cases h),fun h=>?_⟩;subst h;simp[cd]at e2
theorem vm{n:Nat}(hn:100<n)(s:ByteArray):om al .al n s=some (eU s):=by
 unfold om eU;simp only[aw,cX,LQ,bZ,lF,nJ,qb];have hd:(decide ((0:Int)<s.size)&&decide ((s.size:Int)≤8))=(decide (1≤s.size)&&decide (s.size≤8)):=by
  rw[Bool.eq_iff_iff];simp;omega
 rw[hd];cases hg:(decide (1≤s.size)&&decide (s.size≤8))with
 |false=>
  rw[wX (y:=default) (fun h=>by cases h)];simp
 |true=>
  have hs:s.size≤50:=by simp at hg;omega
  obtain⟨t,h1,h2⟩:=acW hn hs;have:fN true true (kC al .al n s xM) default=some t:=h1
  show(fN true true (kC al .al n s xM) default).bind _=_;rw[this,aw];congr 1;rw[Bool.eq_iff_iff];simpa using h2.symm
def r6(x:ah):Bool:=decide (1≤x.ops.length)&&decide (x.ops.length≤60)
def nc(x:ah):Bool:=decide (0≤x.aN)&&decide (x.aN≤4)
def fG(x:ah):Bool:=decide (x.head=⟨#[]⟩)
def nf(x:ah):Bool:=fG x||eU x.head
def alone(n:Nat)(x:ah):Bool:=fG x&&(decide (1<n)|| !decide (x.aN=0))
def eqv(x y:ah):Bool:=decide (x.head=y.head)&&decide (x.aN=y.aN)
def dup:List ah→List ah→Bool
 |_,[]=>false
 |p,x::r=>p.any (eqv x)||dup (p++[x]) r
def jy(b:ai):Int:=
 bif decide (b.ae.length<1)||decide (6<b.ae.length)|| !b.ae.all r6 then 2
 else bif decide (b.aG<0)||decide (4<b.aG)|| !b.ae.all nc then 3
 else bif !eU b.name|| !b.ae.all nf then 4
 else bif b.ae.any (alone b.ae.length)||(decide (b.aG=0)&& !b.ae.all fG)then 7
 else bif dup [] b.ae then 5 else 0
theorem r7{α:Type}(q:α→Bool)(l:List α):(!l.any fun x=> !q x)=l.all q:=by
 induction l with
 |nil=>rfl
 |cons x r ih=>simp only[List.any_cons,List.all_cons,Bool.not_or,Bool.not_not,ih]
theorem every{o:Option Bool}{q:ah→Bool}{l:List ah}(h:o=some (l.any fun x=> !q x)):(o.bind fun y=>some (al.not y))=some (l.all q):=by
 rw[h,aw,cw,r7]
section
variable{n:Nat}(hn:100<n)
 include hn
theorem ev1{l:List ah}(h:l.length≤16):ko al .al n l=some (l.all r6):=
 every (cW (db (p:=iO al .al n) (fun x=> !r6 x) (fun x _=>by
  show some (!(bif (decide ((0:Int)<x.ops.length))then(decide ((x.ops.length:Int)≤60))else false))=_;rw[nJ];unfold r6;rw[show decide ((0:Int)<x.ops.length)=decide (1≤x.ops.length)by rw[decide_eq_decide];omega,show decide ((x.ops.length:Int)≤60)=decide (x.ops.length≤60)by rw[decide_eq_decide];omega]) (by omega) (by omega)))
theorem ev2{l:List ah}(h:l.length≤16):kn al .al n l=some (l.all nc):=
 every (cW (db (p:=iN al .al n) (fun x=> !nc x) (fun x _=>by
  show some (!(bif (decide ((0:Int)≤x.aN))then(decide (x.aN≤4))else false))=_;rw[nJ];rfl) (by omega) (by omega)))
theorem ev3{l:List ah}(h:l.length≤16):km al .al n l=some (l.all nf):=
 every (cW (db (p:=iM al .al n) (fun x=> !nf x) (fun x _=>by
  show(Option.bind (ma al .al n x) fun y1=>some (al.not y1))=_;unfold ma kO;rw[aw,SV (y:=eU x.head) fun _=>vm hn _];simp only[aw,cw,bZ,qb,nf,fG];cases decide (x.head=⟨#[]⟩)<;>rfl) (by omega) (by omega)))
theorem ev4{l:List ah}(h:l.length≤16):kj al .al n l=some (l.all fG):=
 every (cW (db (p:=iL al .al n) (fun x=> !fG x) (fun x _=>rfl) (by omega) (by omega)))
theorem ev5{l:List ah}(h:l.length≤16)(b:ai):ed al .al n l b=some (l.any (alone b.ae.length)):=
 cW (db (p:=fun x=>lZ al .al n x b) (alone b.ae.length) (fun x _=>by
  unfold lZ kO alone fG;simp only[aw,cw,bZ,qb,cX,cD,au,hD,nJ];rw[show decide ((1:Int)<b.ae.length)=decide (1<b.ae.length)by rw[decide_eq_decide];omega]) (by omega) (by omega))
theorem ix8{l:List ah}(h:l.length≤16)(x:ah):fv al .al n l x=some (iI (fun y=>eqv y x) l):=
 db (p:=fun y=>nB al .al n y x) (fun y=>eqv y x) (fun y _=>by
  show some (bif (decide (y.head=x.head))then(decide (y.aN=x.aN))else false)=_;rw[nJ];rfl) (by omega) (by omega)
theorem ix9{l:List ah}(h:l.length≤16)(x:ah):fu al .al n l x=some (iI (fun y=>eqv y x) l):=
 db (p:=fun y=>nA al .al n y x) (fun y=>eqv y x) (fun y _=>by
  show some (bif (decide (y.head=x.head))then(decide (y.aN=x.aN))else false)=_;rw[nJ];rfl) (by omega) (by omega)
end
def vO(x:ah):ByteArray×Int:=(x.head,x.aN)
theorem sq(x y:ah):eqv x y=true↔vO x=vO y:=by simp[eqv,vO]
def HC(l:List ah)(x:ah):Bool:=(l.drop ((iI (fun y=>eqv y x) l).toNat+1)).any fun y=>eqv y x
theorem A9: ∀(r p:List ah),(p.map vO).Nodup→(dup p r=true↔ ¬((p++r).map vO).Nodup)
 |[],p,hp=>by simp[dup,hp]
 |x::r,p,hp=>by
  simp only[dup,Bool.or_eq_true,List.any_eq_true];by_cases hx: ∃y,y∈p∧eqv x y=true
  ·constructor
   ·intro _ hnd;obtain⟨y,hy,he⟩:=hx;rw[List.map_append,List.nodup_append]at hnd;exact hnd.2.2 (vO y) (List.mem_map_of_mem hy) (vO x) (by simp) ((sq x y).1 he).symm
   ·intro _;exact .inl hx
  ·have hp':((p++[x]).map vO).Nodup:=by
    rw[List.map_append,List.nodup_append];refine⟨hp,by simp,fun a ha b hb Bw=>hx ?_⟩;obtain⟨y,hy,rfl⟩:=List.mem_map.1 ha;have:b=vO x:=by simpa using hb
    exact⟨y,hy,(sq x y).2 (this▸Bw).symm⟩
   have:=A9 r (p++[x]) hp'
   rw[List.append_assoc]at this;constructor
   ·rintro(h|h)
    ·exact absurd h hx
    ·exact this.1 h
   ·intro h;exact .inr (this.2 h)
theorem Rx(l:List ah):(l.any (HC l)=true↔ ¬(l.map vO).Nodup):=by
 constructor
 ·intro h hnd;obtain⟨x,hx,h⟩:=List.any_eq_true.1 h;unfold HC at h;obtain⟨y,hy,he⟩:=List.any_eq_true.1 h;have hex:l.any (fun y=>eqv y x)=true:=List.any_eq_true.2 ⟨x,hx,by rw[sq]⟩
  rw[←wS]at hex;have hex:0≤iI (fun y=>eqv y x) l:=by simpa using hex
  unfold iI at hex hy;cases hf:l.findIdx? (fun y=>eqv y x)with
  |none=>rw[hf]at hex;simp at hex
  |some i=>
   rw[hf]at hy;obtain⟨h1,h2,_⟩:=List.findIdx?_eq_some_iff_getElem.1 hf;have Kc:l=l.take (i+1)++l.drop (i+1):=(List.take_append_drop _ _).symm
   rw[Kc,List.map_append,List.nodup_append]at hnd;simp at hy;exact hnd.2.2 (vO l[i]) (List.mem_map_of_mem (by rw[List.mem_take_iff_getElem];exact⟨i,by omega,rfl⟩)) (vO y) (List.mem_map_of_mem hy) (((sq _ _).1 h2).trans ((sq _ _).1 he).symm)
 ·intro h;rcases Bool.eq_false_or_eq_true (l.any (HC l))with hc|hc
  ·exact hc
  ·exfalso;apply h;rw[List.any_eq_false]at hc;unfold List.Nodup;rw[List.pairwise_iff_getElem];intro i j hi hj hij he;simp only[List.length_map]at hi hj;have he:vO l[i]=vO l[j]:=by simpa using he
   refine hc l[i] (List.getElem_mem _) ?_;unfold HC;rw[List.any_eq_true];refine⟨l[j],?_,(sq _ _).2 he.symm⟩;have hle:(iI (fun y=>eqv y l[i]) l).toNat≤i:=by
    unfold iI;cases hf:l.findIdx? (fun y=>eqv y l[i])with
    |none=>simp
    |some k=>
     obtain⟨k1,k2,k3⟩:=List.findIdx?_eq_some_iff_getElem.1 hf;show k≤i;rcases Nat.lt_or_ge i k with aV|Ni
     ·have:=k3 i aV
      exact absurd ((sq l[i] l[i]).2 rfl) this
     ·exact Ni
   rw[List.mem_drop_iff_getElem];exact⟨j - ((iI (fun y=>eqv y l[i]) l).toNat+1),by omega,by congr 1;omega⟩
theorem Ry(l:List ah):l.any (HC l)=dup [] l:=by
 rw[Bool.eq_iff_iff,Rx,A9 l [] (by simp)];rfl
section
variable{n:Nat}(hn:100<n)
 include hn
theorem ix7{b:ai}(h:b.ae.length≤16):cN al .al n b.ae b=some (dup [] b.ae):=by
 rw[←Ry];refine cW (db (p:=fun x=>jj al .al n x b) (HC b.ae) (fun x hx=>?_) (by omega) (by omega));show jj al .al n x b=_;unfold jj;rw[ix8 hn h,aw];have h1:=gO (fun y=>eqv y x) b.ae
 have h2:0≤iI (fun y=>eqv y x) b.ae:=by
  have:=wS (fun y=>eqv y x) b.ae
  rw[List.any_eq_true.2 ⟨x,hx,by rw[sq]⟩]at this;simpa using this
 have h3:al.wrap .i64 (al.add (iI (fun y=>eqv y x) b.ae) 1)=(((iI (fun y=>eqv y x) b.ae).toNat+1:Nat):Int):=by
  show IntKind.wrap .i64 _=_;rw[yF,jB (by omega)];omega
 rw[h3,S2 (by omega),aw,ix9 hn (by simp;omega),aw,LQ,wS];rfl
theorem Ux{b:ai}(h:b.ae.length≤16):vl al .al n b=some (jy b):=by
 unfold vl jy;simp only[aw,au];rw[SV (y:=b.ae.all r6) fun _=>ev1 hn h,aw];rw[SV (y:=b.ae.all nc) fun _=>ev2 hn h];simp only[aw,vm hn];rw[SV (y:=b.ae.all nf) fun _=>ev3 hn h];simp only[aw,ev5 hn h];rw[GZ (y:=b.ae.all fG) fun _=>ev4 hn h];simp only[aw];have h7:cN al .al n b.ae ⟨b.name,b.aG,b.ae⟩=some (dup [] b.ae):=ix7 hn h
 rw[h7];simp only[aw,cX,bZ,cw,cD,hD,nJ];rw[show decide ((b.ae.length:Int)<1)=decide (b.ae.length<1)by rw[decide_eq_decide];omega,show decide ((6:Int)<b.ae.length)=decide (6<b.ae.length)by rw[decide_eq_decide];omega];cases decide (b.ae.length<1)<;>cases decide (6<b.ae.length)<;>cases b.ae.all r6<;>simp;cases decide (b.aG<0)<;>cases decide (4<b.aG)<;>cases b.ae.all nc<;>simp;cases eU b.name<;>cases b.ae.all nf<;>simp;cases b.ae.any (alone b.ae.length)<;>simp;cases decide (b.aG=0)<;>cases b.ae.all fG<;>cases dup [] b.ae<;>simp
end
end Ab
namespace Ab
open Go
set_option maxRecDepth 10000
theorem sE(n:Nat)(a b c:Int):fg al .al n a b c=some (decide (a<b)||decide (c<a)):=by
 unfold fg;rw[bZ,cX,cX,hD]
theorem uJ{α R:Type}{body:(Int→Option R)→Int→Option R}{k:Int→Option R}(e:R)(q:α→Bool)(l:List α)(hl:l.length≤1000)
  (h1: ∀(self:Int→Option R) (i:Nat) (x:α),x∈l→gI l (i:Int)=some x→al.bg (i:Int) (au l)=true→al.wrap .i64 (al.add (i:Int) 1)=((i+1:Nat):Int)→body self (i:Int)=bif q x then some e else self ((i+1:Nat):Int))
  (h2: ∀(self:Int→Option R),al.bg (l.length:Int) (au l)=false→body self (l.length:Int)=k (l.length:Int)){n:Nat}(hn:l.length<n):iter body n 0=bif l.any q then some e else k (l.length:Int):=by
 refine kf (fun r _=>bif r.any q then some e else k (l.length:Int)) l (by omega) ?_ ?_ n hn
 ·intro self i x r hd hi e1 e2 e3 ih;rw[h1 self i x (List.mem_of_mem_drop (i:=i) (by rw[hd];simp)) e1 e2 e3,ih,List.any_cons];cases q x<;>rfl
 ·intro self e;exact h2 self e
theorem SZ{l:List ah}{i:Nat}{x:ah}{b:ai}(hb:b.ae=l)(hx:gI l (i:Int)=some x)(hi:i<l.length){n:Nat}(hn:100<n)(hl:l.length≤16)(k:Int→Option Int):
  iter (fB al .al n b (i:Int) k) n 0=bif (l.take i).any (eqv x)then some 5 else k ((l.take i).length:Int):=by
 have hlen:au (l.take i)=(i:Int):=by unfold au;simp;omega
 refine uJ 5 (eqv x) (l.take i) (by simp;omega) ?_ ?_ (by simp;omega)
 ·intro self j y hy e1 e2 e3;have hj:gI l (j:Int)=some y:=by
   rw[dG]at e1 ⊢;rw[List.getElem?_take]at e1
   split at e1
   ·exact e1
   ·cases e1
  rw[hlen]at e2;simp only[fB,e2,aE,hb,hx,hj,aw,e3];rw[GZ (y:=x) fun _=>rfl,aw,GZ (y:=y) fun _=>rfl,aw];simp only[bZ,qb,cD,eqv];cases decide (x.head=y.head)<;>simp
 ·intro self e;rw[hlen]at e;simp only[fB,e,aM]
section
variable{n:Nat}(hn:100<n)
 include hn
theorem Hp{b:ai}(hb:b.ae.length≤16):kJ al .al n b=some (jy b):=by
 unfold kJ;simp only[aw,sE,au];rw[show decide ((b.ae.length:Int)<1)=decide (b.ae.length<1)by rw[decide_eq_decide];omega,show decide ((6:Int)<b.ae.length)=decide (6<b.ae.length)by rw[decide_eq_decide];omega];cases h0:(decide (b.ae.length<1)||decide (6<b.ae.length))with
 |true=>unfold jy;rw[h0];simp
 |false=>
 rw[aM];have w1: ∀k:Int→Option Int,iter (fF al .al n b k) n 0=bif b.ae.any (fun x=> !r6 x)then some 2 else k (b.ae.length:Int):=by
  intro k;refine uJ (R:=Int) 2 (fun x=> !r6 x) b.ae (by omega) ?a1 ?a2 (by omega)
  case a1=>
   intro self i x hx e1 e2 e3;simp only[fF,aw,e2,aE,e1,e3,sE];congr 1;unfold r6 au;rw[show decide ((x.ops.length:Int)<1)= !decide (1≤x.ops.length)by rw[←decide_not,decide_eq_decide];omega,show decide ((60:Int)<x.ops.length)= !decide (x.ops.length≤60)by rw[←decide_not,decide_eq_decide];omega,Bool.not_and]
  case a2=>intro self e;simp only[fF,aw,e,aM]
 have w2: ∀k:Int→Option Int,iter (fE al .al n b k) n 0=bif b.ae.any (fun x=> !nc x)then some 3 else k (b.ae.length:Int):=by
  intro k;refine uJ (R:=Int) 3 (fun x=> !nc x) b.ae (by omega) ?b1 ?b2 (by omega)
  case b1=>
   intro self i x hx e1 e2 e3;simp only[fE,aw,e2,aE,e1,e3,sE];congr 1;unfold nc;rw[show decide (x.aN<0)= !decide (0≤x.aN)by rw[←decide_not,decide_eq_decide];omega,show decide ((4:Int)<x.aN)= !decide (x.aN≤4)by rw[←decide_not,decide_eq_decide];omega,Bool.not_and]
  case b2=>intro self e;simp only[fE,aw,e,aM]
 have w3: ∀k:Int→Option Int,iter (fD al .al n b k) n 0=bif b.ae.any (fun x=> !nf x)then some 4 else k (b.ae.length:Int):=by
  intro k;refine uJ (R:=Int) 4 (fun x=> !nf x) b.ae (by omega) ?c1 ?c2 (by omega)
  case c1=>
   intro self i x hx e1 e2 e3;simp only[fD,aw,e2,aE,e1,e3];rw[GZ (y:=x) fun _=>rfl,aw,GZ (y:=eU x.head) fun h=>by rw[h,aE];exact wo hn _];simp only[aw,bZ,cw,qb,nf,fG];cases decide (x.head=⟨#[]⟩)<;>simp
  case c2=>intro self e;simp only[fD,aw,e,aM]
 have w4: ∀k:Int→Option Int,iter (fC al .al n b k) n 0=bif b.ae.any (fun x=>alone b.ae.length x||(!fG x&&decide (b.aG=0)))then some 7 else k (b.ae.length:Int):=by
  intro k;refine uJ (R:=Int) 7 (fun x=>alone b.ae.length x||(!fG x&&decide (b.aG=0))) b.ae (by omega) ?d1 ?d2 (by omega)
  case d1=>
   intro self i x hx e1 e2 e3;simp only[fC,aw,e2,aE,e1,e3];congr 1;simp only[bZ,cw,qb,cD,cX,alone,fG,au,hD,nJ];rw[show decide ((1:Int)<b.ae.length)=decide (1<b.ae.length)by rw[decide_eq_decide];omega]
  case d2=>intro self e;simp only[fC,aw,e,aM]
 have h5: ∀k:Int→Option Int,iter (dO al .al n b k) n 0=bif dup [] b.ae then some 5 else k (b.ae.length:Int):=by
  intro k;have:=bJ (A:={u:Unit // True}) (body:=dO al .al n b k) (mk:=fun _ i=>(i:Int)) (fun _ r i=>bif dup (b.ae.take i) r then some 5 else k (b.ae.length:Int)) (fun _ _=>True) b.ae (by omega) ?_ ?_ n (by omega) ⟨(),trivial⟩ trivial
  ·simpa using this
  ·intro self a i x r _ hd hi e1 e2 e3 ih;have ih:=ih ⟨(),trivial⟩ trivial
   simp only[dO,aw,e2,aE];rw[SZ rfl e1 hi hn hb,e3,ih];have ht:b.ae.take (i+1)=b.ae.take i++[x]:=by
    have hx:b.ae[i]? =some x:=by rwa [dG]at e1
    rw[List.take_add_one,hx];rfl
   rw[ht];simp only[dup];cases(b.ae.take i).any (eqv x)<;>rfl
  ·intro self a _ e;simp only[dO,aw,e,aM,dup]
 simp only[w1,w2,w3,w4,h5,sE,wo hn,aw,cw];unfold jy;have YW: ∀q:ah→Bool,(b.ae.any fun x=> !q x)= !b.ae.all q:=fun q=>by rw[←r7,Bool.not_not]
 rw[h0,YW,YW,YW];have hd:(b.ae.any fun x=>alone b.ae.length x||(!fG x&&decide (b.aG=0)))=(b.ae.any (alone b.ae.length)||(decide (b.aG=0)&& !b.ae.all fG)):=by
  rw[←YW];generalize alone b.ae.length=q
  induction b.ae with
  |nil=>simp
  |cons x r ih=>
   simp only[List.any_cons];rw[ih];cases q x<;>cases fG x<;>cases decide (b.aG=0)<;>cases r.any q<;>simp
 rw[hd];cases b.ae.all r6<;>simp;cases decide (b.aG<0)<;>cases decide (4<b.aG)<;>cases b.ae.all nc<;>simp;cases eU b.name<;>cases b.ae.all nf<;>simp;cases b.ae.any (alone b.ae.length)<;>simp;cases decide (b.aG=0)<;>cases b.ae.all fG<;>cases dup [] b.ae<;>simp
end
end Ab
namespace Ab
open Go
set_option maxRecDepth 10000
def looks(o:aH):Bool:=decide (o.kind=1)||decide (o.kind=2)
def aL(o:aH):Bool:=decide (o.kind=4)||decide (o.kind=5)
def pT(out:List Bool)(o:aH):Bool:=decide (o.kind=5)||(decide (o.kind=3)&&o.args.any fun a=>out.getD a.toNat false)
def wc(out:List Bool)(ops:List aH):List Bool:=ops.foldl (fun out o=>out++[pT out o]) out
def di(ops:List aH):List Bool:=wc [] ops
theorem HF: ∀(ops:List aH) (out:List Bool),(wc out ops).length=out.length+ops.length
 |[],out=>rfl
 |o::r,out=>by
  have:=HF r (out++[pT out o])
  simp only[wc,List.foldl_cons]at this ⊢;rw[this];simp;omega
theorem sW(ops:List aH):(di ops).length=ops.length:=by unfold di;rw[HF];simp
def Lg(ops:List aH):Prop:= ∀(j:Nat) (o:aH),ops[j]? =some o→o.kind=3→ ∀a∈o.args,0≤a∧a<j
theorem Et{l:List Bool}{a:Int}(h:0≤a∧a<l.length):gI l a=some (l.getD a.toNat false):=by
 rw[Xx h.1 (by omega)];simp[List.getD,show a.toNat<l.length by omega]
theorem ON{ops:List aH}{i:Nat}{o:aH}(h:gI ops (i:Int)=some o):ops[i]? =some o:=by rwa [dG]at h
section
variable{n:Nat}(hn:100<n)
 include hn
theorem Z6{l:List Bool}{args:List Int}(ha:args.length≤50)(h: ∀a∈args,0≤a∧a<l.length):fx al .al n args l=some (args.any fun a=>l.getD a.toNat false):=
 cW (db (p:=fun a=>nz al .al n a l) (fun a=>l.getD a.toNat false) (fun a hx=>by
  unfold nz;rw[Et (h a hx)];rfl) (by omega) (by omega))
theorem Uf{l:List Bool}{args:List Int}(ha:args.length≤50)(h: ∀a∈args,0≤a∧a<l.length):fw al .al n args l=some (args.any fun a=>l.getD a.toNat false):=
 cW (db (p:=fun a=>qs al .al n a l) (fun a=>l.getD a.toNat false) (fun a hx=>by
  unfold qs;rw[Et (h a hx)];rfl) (by omega) (by omega))
theorem Z5{ops:List aH}(hs:ops.length≤70)(ha: ∀o∈ops,o.args.length≤50)(ht:Lg ops):xU al .al n ops=some (di ops):=by
 unfold xU;rw[aw];have:=bJ (body:=pw al .al n ops (au ops) (fun(l7,z8)=>some l7)) (mk:=fun a i=>(a,(i:Int))) (fun a r i=>some (wc a r)) (fun a i=>a.length=i) ops (by omega) ?_ ?_ n (by omega) [] rfl
 ·simpa[di]using this
 ·intro self a i o r hl hd hi e1 e2 e3 ih;have hm:o∈ops:=List.mem_of_mem_drop (i:=i) (by rw[hd];simp)
  simp only[pw,e2,aE,e1,aw];rw[SV (y:=bif al.aU o.kind 3 then o.args.any (fun x=>a.getD x.toNat false)else default) fun _=>GZ fun h3=>Z6 hn (ha o hm) fun x hx=>by
   have:=ht i o (ON e1) (by simpa[cD]using h3) x hx
   omega]
  rw[aw,b8 (by omega) (by omega),aw,e3,ih _ (by simp[hl])];simp only[wc,List.foldl_cons,bZ,cD];congr 4;unfold pT;cases decide (o.kind=5)<;>cases decide (o.kind=3)<;>rfl
 ·intro self a ha e;simp only[pw,e,aM];rfl
theorem N0{ops:List aH}{l:List Bool}{i:Nat}{o:aH}(ho:gI ops (i:Int)=some o)(ha:o.args.length≤50)(h:o.kind=3→ ∀a∈o.args,0≤a∧a<l.length)(k:Bool×Int→Option (List Bool))(z:Bool):
  iter (kK al .al n ops l (i:Int) k) n (z,0)=k ((z||(decide (o.kind=3)&&o.args.any fun a=>l.getD a.toNat false)),(o.args.length:Int)):=by
 refine bJ (body:=kK al .al n ops l (i:Int) k) (mk:=fun a i=>(a,(i:Int))) (fun z r _=>k ((z||(decide (o.kind=3)&&r.any fun a=>l.getD a.toNat false)),(o.args.length:Int))) (fun _ _=>True) o.args (by omega) ?_ ?_ n (by omega) z trivial
 ·intro self z j a r _ hd hj e1 e2 e3 ih;have hm:a∈o.args:=List.mem_of_mem_drop (i:=j) (by rw[hd];simp)
  simp only[kK,ho,aw,e2,aE];rw[SV (y:=o) fun _=>rfl,aw];cases z with
  |true=>
   simp only[fN,aE,aM,beq_self_eq_true,show(true==false)=false from rfl,aw,e3,bZ,ih _ trivial,Bool.true_or]
  |false=>
   simp only[aM];rw[SV (y:=bif al.aU o.kind 3 then o else default) fun _=>GZ fun _=>rfl,aw];cases h3:decide (o.kind=3)with
   |false=>
    have h3':al.aU o.kind 3=false:=h3
    simp only[fN,h3',aE,aM,beq_self_eq_true,show(false==true)=false from rfl,aw,e3,bZ,ih _ trivial,Bool.false_or,h3,Bool.false_and]
   |true=>
    have h3':al.aU o.kind 3=true:=h3
    simp only[fN,h3',aE,aM,beq_self_eq_true,aw,e1,Et (h (by simpa using h3) a hm),e3,bZ,ih _ trivial,Bool.false_or,h3,Bool.true_and,List.any_cons]
 ·intro self z _ e;simp only[kK,ho,aw,e,aM,List.any_nil,Bool.and_false,Bool.or_false]
theorem NZ{ops:List aH}(hs:ops.length≤70)(ha: ∀o∈ops,o.args.length≤50)(ht:Lg ops):uy al .al n ops=some (di ops):=by
 unfold uy;have:=bJ (body:=mV al .al n ops (fun(l7,z8)=>some l7)) (mk:=fun a i=>(a,(i:Int))) (fun a r i=>some (wc a r)) (fun a i=>a.length=i) ops (by omega) ?_ ?_ n (by omega) [] rfl
 ·simpa[di]using this
 ·intro self a i o r hl hd hi e1 e2 e3 ih;have hm:o∈ops:=List.mem_of_mem_drop (i:=i) (by rw[hd];simp)
  simp only[mV,aw,e2,aE,e1];rw[N0 hn e1 (ha o hm) fun h3 x hx=>by have:=ht i o (ON e1) h3 x hx;omega];dsimp only;rw[b8 (by omega) (by omega),aw,e3,ih _ (by simp[hl])];rfl
 ·intro self a ha e;simp only[mV,aw,e,aM];rfl
end
def find(c:af)(s:ByteArray):Int:=iI (fun b=>decide (b.name=s)) c.ab
def DH(b:ai)(x:ah)(o:aH):Int:=bif decide (o.kind=1)then IntKind.wrap .i64 (b.aG - 1)else bif decide (o.kind=2)then IntKind.wrap .i64 (x.aN - 1)else 0
def before(i:Nat)(a:Int):Bool:=decide (0≤a)&&decide (a<i)
def mb(c:af)(z:Int):Int:=((c.ab[z.toNat]?).map (·.aG)).getD 0
def CN(c:af)(b:ai)(x:ah)(i:Nat)(o:aH):Int:=
 bif decide (o.kind<1)||decide (5<o.kind)then 3
 else bif (looks o&& !decide (o.name=⟨#[]⟩))||(!looks o&& !eU o.name)then 4
 else bif decide (o.num<0)||decide (DH b x o<o.num)then 1
 else bif (looks o&&decide (0<o.args.length))||(decide (o.kind=3)&&decide (4<o.args.length))then 2
 else bif !o.args.all (before i)||(aL o&&decide (find c o.name<0))then 1
 else bif !aL o then 0
 else bif !decide ((o.args.length:Int)=mb c (find c o.name))||o.args.any (fun a=>(di (x.ops.take i)).getD a.toNat false)then 7 else 0
section
variable{n:Nat}(hn:100<n)
 include hn
theorem Bi{c:af}(hc:c.ab.length≤50)(s:ByteArray):cV al .al n s c=some (find c s):=by
 have:fP al .al n c.ab s=some (find c s):=
  db (p:=fun b=>nC al .al n b s) (fun b=>decide (b.name=s)) (fun b _=>rfl) (by omega) (by omega)
 unfold cV;rw[this];rfl
theorem MN{l:List Int}(hl:l.length≤50)(i:Nat):jJ al .al n l (i:Int)=some (l.all (before i)):=by
 have:fy al .al n l (i:Int)=some (l.any fun a=> !before i a):=
  cW (db (p:=fun a=>lu al .al n a (i:Int)) (fun a=> !before i a) (fun a _=>by
   show some (!(bif decide ((0:Int)≤a)then decide (a<(i:Int))else false))=_;rw[nJ];rfl) (by omega) (by omega))
 unfold jJ;rw[this,aw,cw,r7]
theorem QS(c:af)(s:ByteArray):find c s<c.ab.length:=have _:=hn;gO _ _
theorem amJ{c:af}{b:ai}{x:ah}{i:Nat}{o:aH}(hc:c.ab.length≤50)(hs:x.ops.length≤70)(ha: ∀o∈x.ops,o.args.length≤50)(ho:gI x.ops (i:Int)=some o)(ht:Lg (x.ops.take i)):Bf al .al n c b x (i:Int)=some (CN c b x i o):=by
 have hi:i<x.ops.length:=(bh.1 (ON ho)).1
 have hm:o∈x.ops:=jK (ON ho)
 unfold Bf CN;rw[ho,aw];have m1:H0 ([]:List (Int×Int)) 1 (al.wrap .i64 (al.sub b.aG 1))=some [(1,IntKind.wrap .i64 (b.aG - 1))]:=rfl
 have m2:H0 [((1:Int),IntKind.wrap .i64 (b.aG - 1))] 2 (al.wrap .i64 (al.sub x.aN 1))=some [(1,IntKind.wrap .i64 (b.aG - 1)),(2,IntKind.wrap .i64 (x.aN - 1))]:=rfl
 have m3:H3 [((1:Int),IntKind.wrap .i64 (b.aG - 1)),(2,IntKind.wrap .i64 (x.aN - 1))] o.kind 0=DH b x o:=by
  unfold H3 DH;simp only[List.find?_cons,List.find?_nil];by_cases h1:o.kind=1
  ·simp[h1]
  ·have TC: ¬(1:Int)=o.kind:=fun h=>h1 h.symm
   by_cases h2:o.kind=2
   ·simp[h2]
   ·have SR: ¬(2:Int)=o.kind:=fun h=>h2 h.symm
    simp[h1,h2,TC,SR]
 rw[m1,aw,m2,aw,m3,aw];have eu:(bif al.aU o.kind 1 then true else al.aU o.kind 2)=looks o:=by rw[hD];rfl
 have jh:(bif al.aU o.kind 4 then true else al.aU o.kind 5)=aL o:=by rw[hD];rfl
 simp only[bZ,eu,jh,cw];rw[SV (y:=bif !looks o then eU o.name else default) fun _=>GZ fun _=>vm hn _];simp only[aw,cX,cw,qb,hD,nJ,au,cD,MN hn (ha o hm)];have hf:=QS hn c o.name
 have Ni: -1≤find c o.name:=QA _ _
 have AS:cV al .al n o.name ⟨c.ab⟩=some (find c o.name):=Bi hn hc _
 rw[SV (y:=bif aL o then find c o.name else default) fun _=>GZ fun _=>AS,aw];simp only[Cp (show i≤x.ops.length by omega),aw,Z5 hn (show(x.ops.take i).length≤70 by simp;omega) (fun o' h'=>ha o' (List.mem_of_mem_take h')) ht,AS];rw[show decide ((0:Int)<o.args.length)=decide (0<o.args.length)by rw[decide_eq_decide];omega,show decide ((4:Int)<o.args.length)=decide (4<o.args.length)by rw[decide_eq_decide];omega];cases hk:(decide (o.kind<1)||decide (5<o.kind))<;>simp only[aE,aM];have e4:((looks o&& !decide (o.name=⟨#[]⟩))||(!looks o&& !(bif looks o&& !decide (o.name=⟨#[]⟩)then default else bif !looks o then eU o.name else default)))=((looks o&& !decide (o.name=⟨#[]⟩))||(!looks o&& !eU o.name)):=by
  cases looks o<;>cases decide (o.name=⟨#[]⟩)<;>cases eU o.name<;>rfl
 rw[e4];cases((looks o&& !decide (o.name=⟨#[]⟩))||(!looks o&& !eU o.name))<;>simp only[aE,aM];cases(decide (o.num<0)||decide (DH b x o<o.num))<;>simp only[aE,aM];cases((looks o&&decide (0<o.args.length))||(decide (o.kind=3)&&decide (4<o.args.length)))<;>simp only[aE,aM];cases jN:o.args.all (before i)with
 |false=>simp
 |true=>
  simp only[Bool.not_true,Bool.false_or,aM];cases Y4:aL o with
  |false=>simp
  |true=>
   simp only[aE,Bool.true_and,Bool.not_true,aM];by_cases fS:find c o.name<0
   ·simp[fS]
   ·rw[bT fS];simp only[aM];rw[Xx (by omega) (by omega),aw];have Y5:mb c (find c o.name)=(c.ab[(find c o.name).toNat]'(by omega)).aG:=by
     unfold mb;rw[fp (by omega)];rfl
    rw[Y5];rw[SV (y:=o.args.any fun a=>(di (x.ops.take i)).getD a.toNat false) fun _=>Uf hn (ha o hm) fun a hx=>by
     have:=List.all_eq_true.1 jN a hx
     simp only[before,Bool.and_eq_true,decide_eq_true_eq]at this;rw[sW];simp;omega]
    rw[aw];generalize (o.args.any fun a=>(di (x.ops.take i)).getD a.toNat false)=q;cases decide ((o.args.length:Int)=(c.ab[(find c o.name).toNat]'(by omega)).aG)<;>cases q<;>rfl
end
end Ab
namespace Ab
open Go
set_option maxRecDepth 10000
section
variable{n:Nat}(hn:100<n)
 include hn
theorem iC{c:af}(hc:c.ab.length≤50)(s:ByteArray):dQ al .al n c s=some (find c s):=by
 have:iter (FW (fun b:ai=>some (decide (b.name=s))) c.ab) n 0=some (find c s):=db (fun b:ai=>decide (b.name=s)) (fun b _=>rfl) (by omega) (by omega)
 exact this
theorem Pt{c:af}{b:ai}{x:ah}{i:Nat}{o:aH}(hc:c.ab.length≤50)(hs:x.ops.length≤70)(ha: ∀o∈x.ops,o.args.length≤50)(ho:gI x.ops (i:Int)=some o)(ht:Lg (x.ops.take i)):lI al .al n c b x (i:Int)=some (CN c b x i o):=by
 have hi:i<x.ops.length:=(bh.1 (ON ho)).1
 have hm:o∈x.ops:=jK (ON ho)
 have hl:=ha o hm
 unfold lI;have w1: ∀k:Int→Option Int,iter (jd al .al n (i:Int) o k) n 0=bif o.args.any (fun a=> !before i a)then some 1 else k (o.args.length:Int):=by
  intro k;refine uJ (R:=Int) 1 (fun a=> !before i a) o.args (by omega) ?_ ?_ (by omega)
  ·intro self j a hx e1 e2 e3;simp only[jd,aw,e2,aE,e1,e3,sE];congr 1;have:al.wrap .i64 (al.sub (i:Int) 1)=(i:Int) - 1:=by show IntKind.wrap .i64 _=_;rw[adu,jB (by omega)]
   rw[this];unfold before;rw[show decide (a<0)= !decide (0≤a)by rw[←decide_not,decide_eq_decide];omega,show decide ((i:Int) - 1<a)= !decide (a<i)by rw[←decide_not,decide_eq_decide];omega,Bool.not_and]
  ·intro self e;simp only[jd,aw,e,aM]
 have aV:(di (x.ops.take i)).length=i:=by rw[sW];simp;omega
 have w2:o.args.all (before i)=true→ ∀k:Int→Option Int,iter (jc al .al n o (di (x.ops.take i)) k) n 0=bif o.args.any (fun a=>(di (x.ops.take i)).getD a.toNat false)then some 7 else k (o.args.length:Int):=by
  intro jN k;refine uJ (R:=Int) (α:=Int) 7 (fun a=>(di (x.ops.take i)).getD a.toNat false) o.args (by omega) ?_ ?_ (show o.args.length<n by omega)
  ·intro self j a hx e1 e2 e3;have hb:0≤a∧a<(di (x.ops.take i)).length:=by
    have:=List.all_eq_true.1 jN a hx
    simp only[before,Bool.and_eq_true,decide_eq_true_eq]at this;omega
   simp only[jc,aw,e2,aE,e1,e3,Et hb]
  ·intro self e;simp only[jc,aw,e,aM]
 have hf:=QS hn c o.name
 have Ni: -1≤find c o.name:=QA _ _
 have aoc:dQ al .al n ⟨c.ab⟩ o.name=some (find c o.name):=iC hn hc _
 rw[ho,aw,sE,aw];unfold CN;cases hk:(decide (o.kind<1)||decide (5<o.kind))with
 |true=>rfl
 |false=>
 have kh:1≤o.kind∧o.kind≤5:=by simp at hk;omega
 simp only[aM];rw[SV (y:=bif al.bg 2 o.kind then eU o.name else default) fun _=>GZ fun _=>wo hn _,aw];have eu:looks o=decide (o.kind≤2):=by unfold looks;rw[←Bool.decide_or,decide_eq_decide];omega
 have jh:aL o=decide (3<o.kind):=by unfold aL;rw[←Bool.decide_or,decide_eq_decide];omega
 have h2:decide ((2:Int)<o.kind)= !looks o:=by rw[eu,←decide_not,decide_eq_decide];omega
 simp only[bZ,cw,qb,LQ,cX,hD,nJ,h2,←eu];have e4:((looks o&& !decide (o.name=⟨#[]⟩))||(!looks o&& !(bif looks o&& !decide (o.name=⟨#[]⟩)then default else bif !looks o then eU o.name else default)))=((looks o&& !decide (o.name=⟨#[]⟩))||(!looks o&& !eU o.name)):=by
  cases looks o<;>cases decide (o.name=⟨#[]⟩)<;>cases eU o.name<;>rfl
 rw[e4];cases((looks o&& !decide (o.name=⟨#[]⟩))||(!looks o&& !eU o.name))<;>simp only[aE,aM];have hw1:al.wrap .i64 (al.sub b.aG 1)=IntKind.wrap .i64 (b.aG - 1):=rfl
 have hw2:al.wrap .i64 (al.sub x.aN 1)=IntKind.wrap .i64 (x.aN - 1):=rfl
 rw[hw1,hw2,GZ (y:=decide (o.num<0)||decide (IntKind.wrap .i64 (b.aG - 1)<o.num)) fun _=>sE _ _ _ _,aw];rw[SV (y:=bif al.aU o.kind 2 then decide (o.num<0)||decide (IntKind.wrap .i64 (x.aN - 1)<o.num)else default) fun _=>GZ fun _=>sE _ _ _ _,aw];have e5:((al.aU o.kind 1&&bif al.aU o.kind 1 then decide (o.num<0)||decide (IntKind.wrap .i64 (b.aG - 1)<o.num)else default)||(al.aU o.kind 2&&bif (al.aU o.kind 1&&bif al.aU o.kind 1 then decide (o.num<0)||decide (IntKind.wrap .i64 (b.aG - 1)<o.num)else default)then default else bif al.aU o.kind 2 then decide (o.num<0)||decide (IntKind.wrap .i64 (x.aN - 1)<o.num)else default)||(!looks o&& !al.aU o.num 0))=(decide (o.num<0)||decide (DH b x o<o.num)):=by
  simp only[cD,DH,looks];by_cases k1:o.kind=1
  ·simp[k1]
  ·by_cases k2:o.kind=2
   ·simp[k2]
   ·simp[k1,k2];rw[Bool.eq_iff_iff];simp;omega
 rw[e5];cases(decide (o.num<0)||decide (DH b x o<o.num))<;>simp only[aE,aM];simp only[aw,au,cD];rw[show decide ((0:Int)<o.args.length)=decide (0<o.args.length)by rw[decide_eq_decide];omega,show decide ((4:Int)<o.args.length)=decide (4<o.args.length)by rw[decide_eq_decide];omega];cases((looks o&&decide (0<o.args.length))||(decide (o.kind=3)&&decide (4<o.args.length)))<;>simp only[aE,aM];have auu:(o.args.any fun a=> !before i a)= !o.args.all (before i):=by rw[←r7,Bool.not_not]
 rw[w1,auu];cases jN:o.args.all (before i)with
 |false=>simp
 |true=>
  simp only[Bool.not_true,Bool.false_or,aM];have h3:decide (o.kind≤3)= !aL o:=by rw[jh,←decide_not,decide_eq_decide];omega
  rw[h3,aoc];cases Y4:aL o with
  |false=>simp
  |true=>
   simp only[Bool.not_true,aM,aw,Bool.true_and];by_cases fS:find c o.name<0
   ·simp[fS]
   ·rw[bT fS];simp only[aM];rw[Xx (by omega) (by omega),aw];have Y5:mb c (find c o.name)=(c.ab[(find c o.name).toNat]'(by omega)).aG:=by
     unfold mb;rw[fp (by omega)];rfl
    rw[Y5,Cp (by omega),aw,NZ hn (show(x.ops.take i).length≤70 by simp;omega) (fun o' h'=>ha o' (List.mem_of_mem_take h')) ht,aw,w2 jN];generalize (o.args.any fun a=>(di (x.ops.take i)).getD a.toNat false)=q;cases decide ((o.args.length:Int)=(c.ab[(find c o.name).toNat]'(by omega)).aG)<;>cases q<;>rfl
end
def hZ(c:af)(b:ai)(x:ah):Nat→List aH→Option Int
 |_,[]=>none
 |i,o::r=>bif decide (CN c b x i o=0)then hZ c b x (i+1) r else some (CN c b x i o)
def ur(x:ah):Bool:=decide (x.result<0)||decide ((x.ops.length:Int)≤x.result)
def mJ(c:af)(b:ai)(x:ah):Option Int:=(hZ c b x 0 x.ops).or (bif ur x then some 1 else none)
def fA(b:ai):Option Int:=bif decide (jy b=0)then none else some (jy b)
def my(c:af):Nat→List ai→Bool
 |_,[]=>false
 |i,b::r=>decide (find c b.name<i)||my c (i+1) r
def bS(c:af):Int:=
 bif decide (c.ab.length<1)||decide (12<c.ab.length)then 2 else
 ((c.ab.findSome? fA).or (bif my c 0 c.ab then some 5 else c.ab.findSome? (fun b=>b.ae.findSome? (mJ c b)))).getD 0
theorem xK{α R:Type}{body:(Int→Option R)→Int→Option R}{k:Int→Option R}(f:α→Option R)(l:List α)(hl:l.length≤1000)
  (h1: ∀(self:Int→Option R) (i:Nat) (x:α),x∈l→gI l (i:Int)=some x→al.bg (i:Int) (au l)=true→al.wrap .i64 (al.add (i:Int) 1)=((i+1:Nat):Int)→body self (i:Int)=(f x).or (self ((i+1:Nat):Int)))
  (h2: ∀(self:Int→Option R),al.bg (l.length:Int) (au l)=false→body self (l.length:Int)=k (l.length:Int)){n:Nat}(hn:l.length<n):iter body n 0=(l.findSome? f).or (k (l.length:Int)):=by
 refine kf (fun r _=>(r.findSome? f).or (k (l.length:Int))) l (by omega) ?_ ?_ n hn
 ·intro self i x r hd hi e1 e2 e3 ih;rw[h1 self i x (List.mem_of_mem_drop (i:=i) (by rw[hd];simp)) e1 e2 e3,ih,List.findSome?_cons];cases f x<;>rfl
 ·intro self e;exact h2 self e
def Ek(c:af)(b:ai)(x:ah)(i:Nat):Prop:= ∀(j:Nat) (o:aH),j<i→x.ops[j]? =some o→CN c b x j o=0
theorem Aj{c:af}{b:ai}{x:ah}{i:Nat}{o:aH}(h:CN c b x i o=0): ∀a∈o.args,0≤a∧a<i:=by
 have:o.args.all (before i)=true:=by
  rcases Bool.eq_false_or_eq_true (o.args.all (before i))with hc|hc
  ·exact hc
  ·exfalso;unfold CN at h;rw[hc]at h;revert h;cases(decide (o.kind<1)||decide (5<o.kind))<;>simp;cases((looks o&& !decide (o.name=⟨#[]⟩))||(!looks o&& !eU o.name))<;>simp;cases(decide (o.num<0)||decide (DH b x o<o.num))<;>simp;cases((looks o&&decide (0<o.args.length))||(decide (o.kind=3)&&decide (4<o.args.length)))<;>simp
 intro a ha;have:=List.all_eq_true.1 this a ha
 simpa[before]using this
theorem CV{c:af}{b:ai}{x:ah}{i:Nat}(h:Ek c b x i):Lg (x.ops.take i):=fun j o ho _ a ha=>by
 rw[List.getElem?_take]at ho
 split at ho
 ·exact Aj (h j o (by omega) ho) a ha
 ·cases ho
theorem Qs{body:(Int→Option Int)→Int→Option Int}{k:Int→Option Int}(c:af)(b:ai)(x:ah)(hl:x.ops.length≤1000)
  (h1: ∀(self:Int→Option Int) (i:Nat) (o:aH),Ek c b x i→gI x.ops (i:Int)=some o→al.bg (i:Int) (au x.ops)=true→al.wrap .i64 (al.add (i:Int) 1)=((i+1:Nat):Int)→body self (i:Int)=bif !decide (CN c b x i o=0)then some (CN c b x i o)else self ((i+1:Nat):Int))
  (h2: ∀(self:Int→Option Int),al.bg (x.ops.length:Int) (au x.ops)=false→body self (x.ops.length:Int)=k (x.ops.length:Int)){n:Nat}(hn:x.ops.length<n):iter body n 0=(hZ c b x 0 x.ops).or (k (x.ops.length:Int)):=by
 have key: ∀(r:List aH) (i n:Nat),Ek c b x i→x.ops.drop i=r→i≤x.ops.length→r.length<n→iter body n (i:Int)=(hZ c b x i r).or (k (x.ops.length:Int)):=by
  intro r
  induction r with
  |nil=>
   intro i n hz hd hi hn;obtain⟨m,rfl⟩: ∃m,n=m+1:=⟨n - 1,by simp at hn;omega⟩;have Ni:x.ops.length≤i:=by simpa using hd
   have:i=x.ops.length:=by omega
   subst this;exact h2 _ (by show decide ((x.ops.length:Int)<x.ops.length)=false;simp)
  |cons o r ih=>
   intro i n hz hd hi hn;obtain⟨m,rfl⟩: ∃m,n=m+1:=⟨n - 1,by simp at hn;omega⟩;have aV:i<x.ops.length:=by
    rcases Nat.lt_or_ge i x.ops.length with h|h
    ·exact h
    ·rw[List.drop_eq_nil_of_le h]at hd;cases hd
   have ho:=sr hd
   have nN:x.ops.drop (i+1)=r:=by
    have:(x.ops.drop i).drop 1=x.ops.drop (i+1):=by rw[List.drop_drop]
    rw[←this,hd];rfl
   refine(h1 _ i o hz ho (by show decide ((i:Int)<x.ops.length)=true;simp;omega) (by show IntKind.wrap .i64 ((i:Int)+1)=_;rw[jB (by omega)];rfl)).trans ?_;simp only[hZ];by_cases hzero:CN c b x i o=0
   ·have vF:Ek c b x (i+1):=fun j o' hj C6=>by
     rcases Nat.lt_or_ge j i with h|h
     ·exact hz j o' h C6
     ·have:j=i:=by omega
      subst this;rw[ON ho]at C6;cases C6;exact hzero
    rw[bH hzero];exact ih (i+1) m vF nN aV (by simp at hn;omega)
   ·rw[bT hzero];rfl
 exact key x.ops 0 n (fun j o hj=>absurd hj (Nat.not_lt_zero _)) rfl (Nat.zero_le _) hn
structure yj(c:af):Prop where
 bl:c.ab.length≤16
 br: ∀b∈c.ab,b.ae.length≤16
 op: ∀b∈c.ab,∀x∈b.ae,x.ops.length≤70
 ar: ∀b∈c.ab,∀x∈b.ae,∀o∈x.ops,o.args.length≤50
theorem coS.ck{c:af}(h:coS c):yj c:=
 ⟨h.1,fun b hb=>by have:=(h.2 b hb).2.1;omega,fun b hb x hx=>((h.2 b hb).2.2 x hx).2.1,fun b hb x hx o ho=>by have:=(((h.2 b hb).2.2 x hx).2.2 o ho).2;omega⟩
theorem or_some{α:Type}(a:Option α)(d:α):a.or (some d)=some (a.getD d):=by cases a<;>rfl
section
variable{n:Nat}(hn:100<n)
 include hn
theorem rq{c:af}(hc:yj c):dV al .al n c=some (bS c):=by
 unfold dV bS;simp only[aw,bZ,cX,hD,au];rw[show decide ((c.ab.length:Int)<1)=decide (c.ab.length<1)by rw[decide_eq_decide];omega,show decide ((12:Int)<c.ab.length)=decide (12<c.ab.length)by rw[decide_eq_decide];omega];have w1: ∀k:Int→Option Int,iter (nH al .al n c (au c.ab) k) n 0=(c.ab.findSome? fA).or (k (c.ab.length:Int)):=fun k=>by
  refine xK (n:=n) fA c.ab (by have:=hc.bl;omega) ?_ ?_ (by have:=hc.bl;omega)
  ·intro self i b hb e1 e2 e3;simp only[nH,e2,aE,e1,aw,Ux hn (hc.br b hb),e3,cw,cD,fA];cases decide (jy b=0)<;>rfl
  ·intro self e;simp only[nH,e,aM]
 have w2: ∀k:Int→Option Int,iter (nG al .al n c (au c.ab) k) n 0=bif my c 0 c.ab then some 5 else k (c.ab.length:Int):=fun k=>by
  refine kf (fun r i=>bif my c i r then some 5 else k (c.ab.length:Int)) c.ab (by have:=hc.bl;omega) ?_ ?_ n (by have:=hc.bl;omega)
  ·intro self i b r hd hi e1 e2 e3 ih;have hb:cV al .al n b.name ⟨c.ab⟩=some (find c b.name):=Bi hn (show c.ab.length≤50 by have:=hc.bl;omega) _
   simp only[nG,e2,aE,e1,aw,hb,e3,ih];simp only[cX,my];cases decide (find c b.name<(i:Int))<;>rfl
  ·intro self e;simp only[nG,e,aM,my]
 have w5: ∀b∈c.ab,∀x∈b.ae,∀k:Int→Option Int,iter (nD al .al n c (au x.ops) b x k) n 0=(hZ c b x 0 x.ops).or (k (x.ops.length:Int)):=fun b hb x hx k=>by
  refine Qs (n:=n) c b x (by have:=hc.op b hb x hx;omega) ?_ ?_ (by have:=hc.op b hb x hx;omega)
  ·intro self i o hz e1 e2 e3;have ho:Bf al .al n ⟨c.ab⟩ b x (i:Int)=some (CN c b x i o):=amJ hn (show c.ab.length≤50 by have:=hc.bl;omega) (hc.op b hb x hx) (hc.ar b hb x hx) e1 (CV hz)
   simp only[nD,e2,aE,ho,aw,e3,cw,cD]
  ·intro self e;simp only[nD,e,aM]
 have w4: ∀b∈c.ab,∀k:Int→Option Int,iter (nE al .al n c (au b.ae) b k) n 0=(b.ae.findSome? (mJ c b)).or (k (b.ae.length:Int)):=fun b hb k=>by
  refine xK (n:=n) (mJ c b) b.ae (by have:=hc.br b hb;omega) ?_ ?_ (by have:=hc.br b hb;omega)
  ·intro self i x hx e1 e2 e3;simp only[nE,e2,aE,e1,aw,w5 b hb x hx,e3];simp only[mJ,ur,bZ,cX,LQ,hD,au];cases hZ c b x 0 x.ops with
   |some e=>rfl
   |none=>
    cases(decide (x.result<0)||decide ((x.ops.length:Int)≤x.result))<;>rfl
  ·intro self e;simp only[nE,e,aM]
 have w3: ∀k:Int→Option Int,iter (nF al .al n c (au c.ab) k) n 0=(c.ab.findSome? (fun b=>b.ae.findSome? (mJ c b))).or (k (c.ab.length:Int)):=fun k=>by
  refine xK (n:=n) (fun b=>b.ae.findSome? (mJ c b)) c.ab (by have:=hc.bl;omega) ?_ ?_ (by have:=hc.bl;omega)
  ·intro self i b hb e1 e2 e3;simp only[nF,e2,aE,e1,aw,w4 b hb,e3]
  ·intro self e;simp only[nF,e,aM]
 simp only[au]at w1 w2 w3;simp only[w1,w2,w3,or_some];cases(decide (c.ab.length<1)||decide (12<c.ab.length))with
 |true=>rfl
 |false=>
  simp only[aM];cases my c 0 c.ab<;>cases c.ab.findSome? fA<;>cases c.ab.findSome? (fun b=>b.ae.findSome? (mJ c b))<;>rfl
theorem LB{c:af}(hc:yj c):rW al .al n c=some (bS c):=by
 unfold rW bS;simp only[aw,sE,au];rw[show decide ((c.ab.length:Int)<1)=decide (c.ab.length<1)by rw[decide_eq_decide];omega,show decide ((12:Int)<c.ab.length)=decide (12<c.ab.length)by rw[decide_eq_decide];omega];have w1: ∀k:Int→Option Int,iter (lN al .al n c k) n 0=(c.ab.findSome? fA).or (k (c.ab.length:Int)):=fun k=>by
  refine xK (n:=n) fA c.ab (by have:=hc.bl;omega) ?_ ?_ (by have:=hc.bl;omega)
  ·intro self i b hb e1 e2 e3;simp only[lN,aw,e2,aE,e1,Hp hn (hc.br b hb),e3,cw,cD,fA];cases decide (jy b=0)<;>rfl
  ·intro self e;simp only[lN,aw,e,aM]
 have w2: ∀k:Int→Option Int,iter (lM al .al n c k) n 0=bif my c 0 c.ab then some 5 else k (c.ab.length:Int):=fun k=>by
  refine kf (fun r i=>bif my c i r then some 5 else k (c.ab.length:Int)) c.ab (by have:=hc.bl;omega) ?_ ?_ n (by have:=hc.bl;omega)
  ·intro self i b r hd hi e1 e2 e3 ih;simp only[lM,aw,e2,aE,e1,iC hn (show c.ab.length≤50 by have:=hc.bl;omega),e3,ih];simp only[cX,my];cases decide (find c b.name<(i:Int))<;>rfl
  ·intro self e;simp only[lM,aw,e,aM,my]
 have w5: ∀b∈c.ab,∀x∈b.ae,∀z,gI c.ab z=some b→ ∀k:Int→Option Int,iter (lJ al .al n c x z k) n 0=(hZ c b x 0 x.ops).or (k (x.ops.length:Int)):=fun b hb x hx z hz k=>by
  refine Qs (n:=n) c b x (by have:=hc.op b hb x hx;omega) ?_ ?_ (by have:=hc.op b hb x hx;omega)
  ·intro self i o vF e1 e2 e3;have ho:lI al .al n ⟨c.ab⟩ b x (i:Int)=some (CN c b x i o):=Pt hn (show c.ab.length≤50 by have:=hc.bl;omega) (hc.op b hb x hx) (hc.ar b hb x hx) e1 (CV vF)
   simp only[lJ,aw,e2,aE,hz,ho,e3,cw,cD]
  ·intro self e;simp only[lJ,aw,e,aM]
 have w4: ∀b∈c.ab,∀z,gI c.ab z=some b→ ∀k:Int→Option Int,iter (lK al .al n c z k) n 0=(b.ae.findSome? (mJ c b)).or (k (b.ae.length:Int)):=fun b hb z hz k=>by
  refine xK (n:=n) (mJ c b) b.ae (by have:=hc.br b hb;omega) ?_ ?_ (by have:=hc.br b hb;omega)
  ·intro self i x hx e1 e2 e3;have hs:al.wrap .i64 (al.sub (x.ops.length:Int) 1)=(x.ops.length:Int) - 1:=by
    have:=hc.op b hb x hx
    show IntKind.wrap .i64 _=_;rw[adu,jB (by omega)]
   simp only[lK,hz,aw,e2,aE,e1,w5 b hb x hx z hz,e3];simp only[mJ,ur,au,sE,hs,aw];rw[show decide ((x.ops.length:Int) - 1<x.result)=decide ((x.ops.length:Int)≤x.result)by rw[decide_eq_decide];omega];cases hZ c b x 0 x.ops with
   |some e=>rfl
   |none=>
    cases(decide (x.result<0)||decide ((x.ops.length:Int)≤x.result))<;>rfl
  ·intro self e;simp only[lK,hz,aw,e,aM]
 have w3: ∀k:Int→Option Int,iter (lL al .al n c k) n 0=(c.ab.findSome? (fun b=>b.ae.findSome? (mJ c b))).or (k (c.ab.length:Int)):=fun k=>by
  refine xK (n:=n) (fun b=>b.ae.findSome? (mJ c b)) c.ab (by have:=hc.bl;omega) ?_ ?_ (by have:=hc.bl;omega)
  ·intro self i b hb e1 e2 e3;simp only[lL,aw,e2,aE,w4 b hb _ e1,e3]
  ·intro self e;simp only[lL,aw,e,aM]
 simp only[w1,w2,w3,or_some];cases(decide (c.ab.length<1)||decide (12<c.ab.length))with
 |true=>rfl
 |false=>
  simp only[aM];cases my c 0 c.ab<;>cases c.ab.findSome? fA<;>cases c.ab.findSome? (fun b=>b.ae.findSome? (mJ c b))<;>rfl
end
end Ab
namespace Ab
open Go
set_option maxRecDepth 10000
structure ua(x:ah):Prop where
 len:x.ops.length≤70
 ar: ∀o∈x.ops,o.args.length≤50
 args: ∀(i:Nat) (o:aH),x.ops[i]? =some o→ ∀a∈o.args,0≤a∧a<i
 res:0≤x.result∧x.result<x.ops.length
theorem oP{c:af}{b:ai}{x:ah}: ∀{r:List aH} {i:Nat},hZ c b x i r=none→ ∀(j:Nat) (o:aH),r[j]? =some o→CN c b x (i+j) o=0
 |[],i,_,j,o,h=>by simp at h
 |p::r,i,h,j,o,ho=>by
  simp only[hZ]at h;by_cases hz:CN c b x i p=0
  ·rw[bH hz,aE]at h;cases j with
   |zero=>simp at ho;subst ho;exact hz
   |succ j=>have:=oP h j o (by simpa using ho);rwa [show i+(j+1)=i+1+j by omega]
  ·rw[bT hz]at h;cases h
theorem HW{c:af}{b:ai}{x:ah}: ∀{r:List aH} {i:Nat} {e:Int},hZ c b x i r=some e→e≠0
 |[],i,e,h=>by simp[hZ]at h
 |p::r,i,e,h=>by
  simp only[hZ]at h;by_cases hz:CN c b x i p=0
  ·rw[bH hz,aE]at h;exact HW h
  ·rw[bT hz,aM]at h;cases h;exact hz
theorem X9{c:af}{b:ai}{x:ah}{e:Int}(h:mJ c b x=some e):e≠0:=by
 unfold mJ at h;cases h1:hZ c b x 0 x.ops with
 |some e'=>rw[h1]at h;cases h;exact HW h1
 |none=>
  rw[h1]at h;cases h2:ur x with
  |true=>rw[h2]at h;cases h;decide
  |false=>rw[h2]at h;cases h
structure Bm(c:af):Prop where
 some:1≤c.ab.length∧c.ab.length≤12
 right: ∀b∈c.ab,jy b=0
 names:my c 0 c.ab=false
 ops: ∀b∈c.ab,∀x∈b.ae,hZ c b x 0 x.ops=none∧ur x=false
theorem Gy{c:af}(h:bS c=0):Bm c:=by
 unfold bS at h;cases h0:(decide (c.ab.length<1)||decide (12<c.ab.length))with
 |true=>rw[h0]at h;cases h
 |false=>
  rw[h0,aM]at h;have h1:c.ab.findSome? fA=none:=by
   cases h1:c.ab.findSome? fA with
   |none=>rfl
   |some e=>
    rw[h1]at h;obtain⟨b,_,hb⟩:=List.exists_of_findSome?_eq_some h1;unfold fA at hb;by_cases hz:jy b=0
    ·rw[bH hz]at hb;cases hb
    ·rw[bT hz]at hb;cases hb;exact absurd h hz
  rw[h1,Option.none_or]at h;have h2:my c 0 c.ab=false:=by
   cases h2:my c 0 c.ab with
   |false=>rfl
   |true=>rw[h2]at h;cases h
  rw[h2,aM]at h;have h3:c.ab.findSome? (fun b=>b.ae.findSome? (mJ c b))=none:=by
   cases h3:c.ab.findSome? (fun b=>b.ae.findSome? (mJ c b))with
   |none=>rfl
   |some e=>
    rw[h3]at h;obtain⟨b,_,hb⟩:=List.exists_of_findSome?_eq_some h3;obtain⟨x,_,hx⟩:=List.exists_of_findSome?_eq_some hb;exact absurd h (X9 hx)
  refine⟨by simp only[Bool.or_eq_false_iff,decide_eq_false_iff_not]at h0;omega,fun b hb=>?_,h2,fun b hb x hx=>?_⟩
  ·have:=List.findSome?_eq_none_iff.1 h1 b hb
   unfold fA at this;by_cases hz:jy b=0
   ·exact hz
   ·rw[bT hz]at this;cases this
  ·have:=List.findSome?_eq_none_iff.1 (List.findSome?_eq_none_iff.1 h3 b hb) x hx
   unfold mJ at this;cases h4:hZ c b x 0 x.ops with
   |some e=>rw[h4]at this;cases this
   |none=>
    rw[h4,Option.none_or]at this;refine⟨rfl,?_⟩;cases h5:ur x with
    |false=>rfl
    |true=>rw[h5]at this;cases this
theorem Bm.x{c:af}(h:Bm c)(hc:yj c){b:ai}(hb:b∈c.ab){x:ah}(hx:x∈b.ae):ua x:=by
 obtain⟨h1,h2⟩:=h.ops b hb x hx;refine⟨hc.op b hb x hx,hc.ar b hb x hx,fun i o ho=>?_,?_⟩
 ·have:=oP h1 i o ho
  rw[Nat.zero_add]at this;exact Aj this
 ·unfold ur at h2;simp at h2;omega
def qc(u:Bool)(args:List Int)(l:List Bool):List Bool:=args.foldl (fun l a=>l.set a.toNat (l.getD a.toNat false||u)) l
def v8(x:ah):Nat→List Bool→List Bool
 |0,l=>l
 |i+1,l=>match x.ops[i]? with
  |none=>l
  |some o=>v8 x i (qc (l.getD i false||decide ((i:Int)=x.result)||aL o) o.args (l.set i (l.getD i false||decide ((i:Int)=x.result)||aL o)))
def Ae(x:ah):List Bool:=v8 x x.ops.length (List.replicate x.ops.length false)
theorem xJ(u:Bool): ∀(args:List Int) (l:List Bool),(qc u args l).length=l.length
 |[],l=>rfl
 |a::r,l=>by
  have:=xJ u r (l.set a.toNat (l.getD a.toNat false||u))
  unfold qc at this ⊢;rw[List.foldl_cons,this,List.length_set]
theorem oY(l:List Bool)(i j:Nat)(v:Bool):(l.set i v).getD j false=if i=j∧i<l.length then v else l.getD j false:=by
 simp only[List.getD_eq_getElem?_getD,List.getElem?_set];by_cases h:i=j
 ·subst h;by_cases h2:i<l.length
  ·simp[h2]
  ·simp[h2]
 ·simp[h]
section
variable{n:Nat}(hn:100<n)
 include hn
end
end Ab
namespace Ab
open Go
set_option maxRecDepth 10000
section
variable{α R S A:Type}
theorem Ih{body:(S→Option R)→S→Option R}(mk:A→Nat→S)(G:A→List α→Nat→Option R)(P:A→Nat→Prop)(l:List α)(hl:l.length≤9223372036854775806)
  (h1: ∀(self:S→Option R) (a:A) (i:Nat) (x:α) (r:List α),P a i→l.drop i=x::r→i<l.length→gI l (i:Int)=some x→al.bg (i:Int) (au l)=true→al.wrap .i64 (al.add (i:Int) 1)=((i+1:Nat):Int)→
   (∀a',P a' (i+1)→self (mk a' (i+1))=G a' r (i+1))→body self (mk a i)=G a (x::r) i)
  (h2: ∀(self:S→Option R) (a:A),P a l.length→al.bg (l.length:Int) (au l)=false→body self (mk a l.length)=G a [] l.length)(n i:Nat)(hi:i≤l.length)(hn:l.length<n)(a:A)(ha:P a i):iter body n (mk a i)=G a (l.drop i) i:=by
 have key: ∀(r:List α) (i n:Nat) (a:A),P a i→l.drop i=r→i≤l.length→r.length<n→iter body n (mk a i)=G a r i:=by
  intro r
  induction r with
  |nil=>
   intro i n a hp hd hi hn;obtain⟨m,rfl⟩: ∃m,n=m+1:=⟨n - 1,by simp at hn;omega⟩;have Ni:l.length≤i:=by simpa using hd
   have:i=l.length:=by omega
   subst this;exact h2 _ a hp (by show decide ((l.length:Int)<l.length)=false;simp)
  |cons x r ih=>
   intro i n a hp hd hi hn;obtain⟨m,rfl⟩: ∃m,n=m+1:=⟨n - 1,by simp at hn;omega⟩;have aV:i<l.length:=by
    rcases Nat.lt_or_ge i l.length with h|h
    ·exact h
    ·rw[List.drop_eq_nil_of_le h]at hd;cases hd
   have nN:l.drop (i+1)=r:=by
    have:(l.drop i).drop 1=l.drop (i+1):=by rw[List.drop_drop]
    rw[←this,hd];rfl
   refine h1 _ a i x r hp hd aV (sr hd) (by show decide ((i:Int)<l.length)=true;simp;omega) (by show IntKind.wrap .i64 ((i:Int)+1)=_;rw[jB (by omega)];rfl) fun a' hp'=>?_;exact ih (i+1) m a' hp' nN aV (by simp at hn;omega)
 exact key (l.drop i) i n a ha rfl hi (by simp;omega)
end
def la(sl:List Int)(args:List Int):List Int:=args.map fun a=>sl.getD a.toNat 0
theorem Fb(sl args:List Int):(la sl args).length=args.length:=by simp[la]
theorem uV{sl:List Int}{a:Int}(h:0≤a)(h2:a<sl.length):gI sl a=some (sl.getD a.toNat 0):=by
 unfold gI;rw[if_pos (by omega)];have:a.toNat<sl.length:=by omega
 simp[List.getD_eq_getElem?_getD,this]
section
variable{n:Nat}(hn:100<n)
 include hn
theorem Lo{hd:ByteArray}{kd z:Int}{ops:List aH}{sl args:List Int}(ha: ∀a∈args,0≤a∧a<sl.length)(hl:args.length≤50):bD al .al n hd kd ops z sl args=some (la sl args):=by
 unfold bD;rw[aw];have:=bJ (body:=dp al .al n sl args (au args) fun(z7,l8)=>some l8) (mk:=fun(l:List Int) i=>((i:Int),l)) (fun l r _=>some (l++la sl r)) (fun l i=>l.length=i) args (by omega) ?_ ?_ n (by omega) [] rfl
 ·simpa using this
 ·intro self l i x r hp hd hi e1 e2 e3 ih;have hx:=ha x (List.mem_of_mem_drop (i:=i) (by rw[hd];simp))
  simp only[dp,e2,aE,e1,aw,uV hx.1 hx.2];rw[b8 (by omega) (by omega),aw,e3,ih _ (by simp[hp])];simp[la]
 ·intro self l hp e;simp only[dp,e,aM];simp[la]
end
theorem X2{l m:List Int}(h:m.length=l.length):nI m.length l m=l:=by
 unfold nI;rw[h,Nat.min_self,List.take_length,List.drop_eq_nil_of_le (by omega),List.append_nil]
theorem PK{y:List Int}{l:List aH}{k z:Int}{nm:ByteArray}(hy:y.length≤1000)(hl:l.length≤1000):
  ((some (au y)).bind fun YL=>
   (DI 8 YL 0).bind fun H7=>
   (some (nI (Md.al.ln H7) y H7)).bind fun Nc=>
   (some (px (Md.al.ln H7) y)).bind fun n44=>
   bif (al.aU YL 0)then
    (aQ 56 l (⟨k,nm,z,[]⟩:aH)).bind fun Qv=>
    (some (au Qv)).bind fun OT=>
    some ((al.wrap .i64 (al.sub OT 1)),Qv)
   else
    (eQ (Md.al.ln H7) Nc).bind fun u47=>
    (aQ 56 l (⟨k,nm,z,Nc⟩:aH)).bind fun YQ=>
    (some (au YQ)).bind fun Wk=>
    some ((al.wrap .i64 (al.sub Wk 1)),YQ))=some ((l.length:Int),l++[⟨k,nm,z,y⟩]):=by
 have hm:DI 8 (au y) (0:Int)=some (List.replicate y.length 0):=OV (by omega) (by omega)
 have hc:nI (Md.al.ln (List.replicate y.length (0:Int))) y (List.replicate y.length 0)=y:=X2 (by simp)
 have hw: ∀o:aH,al.wrap .i64 (al.sub (au (l++[o])) 1)=(l.length:Int):=fun o=>by
  show IntKind.wrap .i64 (((l++[o]).length:Int) - 1)=_;rw[List.length_append,List.length_singleton,show(((l.length+1:Nat):Int) - 1)=(l.length:Int)by omega,K7 (by omega)]
 rw[aw,hm,aw,aw,aw,hc];by_cases h0:y=[]
 ·subst h0;have:al.aU (au ([]:List Int)) 0=true:=rfl
  rw[this,aE,b8 (by omega) (by omega),aw,aw,hw]
 ·have:al.aU (au y) 0=false:=by
   show decide ((y.length:Int)=0)=false;have:y.length≠0:=fun h=>h0 (List.eq_nil_of_length_eq_zero h)
   exact bT (by omega)
  rw[this,aM,AO (by simp[Md.al]),aw,b8 (by omega) (by omega),aw,aw,hw]
def bare(b:ai):ai:=⟨b.name,b.aG,[]⟩
def fH(F:ah→ah)(b:ai):ai:=⟨b.name,b.aG,b.ae.map F⟩
def fU(F:ah→ah)(bs:List ai)(i j:Nat):List ai:=(bs.take i).map (fH F)++(match bs.drop i with
 |[]=>[]
 |b::r=>⟨b.name,b.aG,(b.ae.take j).map F⟩::r.map bare)
theorem MU{F:ah→ah}{bs:List ai}:fU F bs 0 0=bs.map bare:=by
 unfold fU;cases bs<;>simp[bare]
theorem Dm{F:ah→ah}{bs:List ai}{i:Nat}{b:ai}{r:List ai}(h:bs.drop i=b::r):fU F bs i b.ae.length=fU F bs (i+1) 0:=by
 unfold fU;have h1:bs.drop (i+1)=r:=by rw[←List.drop_drop,h];rfl
 have h2:bs.take (i+1)=bs.take i++[b]:=by
  have:=List.getElem?_drop (xs:=bs) (i:=i) (j:=0)
  rw[h]at this;rw[List.take_add_one];simp at this;rw[←this];rfl
 rw[h,h1,h2];dsimp only;rw[List.take_length,List.map_append,List.append_assoc];congr 1;cases r<;>simp[bare,fH]
theorem GF{F:ah→ah}{bs:List ai}:fU F bs bs.length 0=bs.map (fH F):=by
 unfold fU;rw[List.take_length,List.drop_length];simp
theorem Px{F:ah→ah}{bs:List ai}{i j:Nat}:(fU F bs i j).length=bs.length:=by
 unfold fU;cases h:bs.drop i with
 |nil=>
  have:=congrArg List.length h
  simp at this;simp;omega
 |cons b r=>
  have:=congrArg List.length h
  simp at this;simp;omega
theorem GD{F:ah→ah}{bs:List ai}{i j:Nat}{b:ai}{r:List ai}(h:bs.drop i=b::r):gK (fU F bs i j) i=some ⟨b.name,b.aG,(b.ae.take j).map F⟩:=by
 have hl:=congrArg List.length h
 simp at hl;have:min i bs.length=i:=by omega
 unfold fU gK;rw[h];rw[ji (by simp;omega)];simp[this]
theorem GC{F:ah→ah}{bs:List ai}{i j:Nat}{b:ai}{r:List ai}{x:ah}{s:List ah}(h:bs.drop i=b::r)(hx:b.ae.drop j=x::s):
  nO (fU F bs i j) i (⟨b.name,b.aG,(b.ae.take j).map F++[F x]⟩:ai)=some (fU F bs i (j+1)):=by
 have hl:=congrArg List.length h
 simp at hl;have hm:min i bs.length=i:=by omega
 rw[Ei (by rw[Px];omega)];have h2:b.ae.take (j+1)=b.ae.take j++[x]:=by
  have:=List.getElem?_drop (xs:=b.ae) (i:=j) (j:=0)
  rw[hx]at this;rw[List.take_add_one];simp at this;rw[←this];rfl
 unfold fU;rw[h];dsimp only;rw[List.set_append_right _ _ (by simp;omega),h2];simp[hm]
end Ab
namespace Ab
open Go
set_option maxRecDepth 10000
def MQ(u:List Bool):List aH→Nat→List aH×List Int→List aH×List Int
 |[],_,st=>st
 |o::r,i,st=>MQ u r (i+1) (bif u.getD i false then(st.1++[⟨o.kind,o.name,o.num,la st.2 o.args⟩],st.2++[(st.1.length:Int)])else(st.1,st.2++[0]))
def XQ(x:ah):ah:=⟨x.head,x.aN,(MQ (Ae x) x.ops 0 ([],[])).1,(MQ (Ae x) x.ops 0 ([],[])).2.getD x.result.toNat 0⟩
section
variable{n:Nat}(hn:100<n)
 include hn
end
end Ab
namespace Ab
open Go
set_option maxRecDepth 10000
theorem Ba{α:Type}{l:List α}{i:Nat}{x:α}{r:List α}(h:l.drop i=x::r):l[i]? =some x:=by rw[←dG];exact sr h
theorem lT{α:Type}{l:List α}{i:Nat}{x:α}{r:List α}(h:l.drop i=x::r):x∈l:=jK (Ba h)
section
variable{n:Nat}(hn:100<n)
 include hn
end
end Ab
namespace Ab
open Go
set_option maxRecDepth 10000
section
variable{α β:Type}
theorem kL{body:(Int→Option Bool)→Int→Option Bool}(q:α→β→Bool){l:List α}{m:List β}(MA:l.length=m.length)(R:Option Bool)(hl:l.length≤9223372036854775806)
  (h1: ∀(self:Int→Option Bool) (i:Nat) (x:α) (y:β),gI l (i:Int)=some x→gI m (i:Int)=some y→x∈l→y∈m→al.bg (i:Int) (au l)=true→al.wrap .i64 (al.add (i:Int) 1)=((i+1:Nat):Int)→
   body self (i:Int)=bif q x y then self ((i+1:Nat):Int)else some false)
  (h2: ∀(self:Int→Option Bool),al.bg (l.length:Int) (au l)=false→body self (l.length:Int)=R){n:Nat}(hn:l.length<n):iter body n 0=bif jA q l m then R else some false:=by
 have:=kf (R:=Bool) (body:=body) (fun r i=>bif jA q r (m.drop i)then R else some false) l hl ?_ ?_ n hn
 ·simpa using this
 ·intro self i x r hd hi e1 e2 e3 ih;obtain⟨y,s,hy⟩: ∃y s,m.drop i=y::s:=by
   cases h:m.drop i with
   |nil=>simp at h;omega
   |cons y s=>exact⟨y,s,rfl⟩
  have hs:m.drop (i+1)=s:=by rw[←List.drop_drop,hy];rfl
  rw[h1 self i x y e1 (sr hy) (lT hd) (lT hy) e2 e3,ih,hy,hs];simp only[jA];cases q x y<;>simp
 ·intro self e;have:m.drop l.length=[]:=by simp[MA]
  rw[h2 self e,this];rfl
end
theorem wH{x y:aH}:decide (x=y)=(decide (x.kind=y.kind)&&decide (x.name=y.name)&&decide (x.num=y.num)&&decide (x.args=y.args)):=by
 cases x;cases y;simp[Bool.and_assoc]
theorem X8{x y:ah}:decide (x=y)=(decide (x.head=y.head)&&decide (x.aN=y.aN)&&decide (x.ops=y.ops)&&decide (x.result=y.result)):=by
 cases x;cases y;simp[Bool.and_assoc]
theorem Ye{x y:ai}:decide (x=y)=(decide (x.name=y.name)&&decide (x.aG=y.aG)&&decide (x.ae=y.ae)):=by
 cases x;cases y;simp[Bool.and_assoc]
theorem B6{α:Type}[DecidableEq α]{l m:List α}(h:l.length≠m.length):decide (l=m)=false:=bT fun e=>h (by rw[e])
structure Szd(c:af):Prop where
 bl:c.ab.length≤1000
 br: ∀b∈c.ab,b.ae.length≤1000
 op: ∀b∈c.ab,∀x∈b.ae,x.ops.length≤1000
 ar: ∀b∈c.ab,∀x∈b.ae,∀o∈x.ops,o.args.length≤1000
section
variable{n:Nat}(hn:1000<n)
 include hn
theorem BJ{x y:ah}(yb:x.ops.length≤1000)(Y5: ∀o∈x.ops,o.args.length≤1000):kI al .al n x y=some (decide (x=y)):=by
 unfold kI;simp only[aw,bZ,hD,cw,qb,cD];rw[X8];by_cases hl:x.ops.length=y.ops.length
 ·have h0:decide (au x.ops=au y.ops)=true:=bH (by show(x.ops.length:Int)=y.ops.length;omega)
  rw[kL (fun x y=>decide (x=y)) hl (some true) (by omega) ?_ ?_ (by omega),vp,h0]
  ·cases decide (x.head=y.head)<;>cases decide (x.aN=y.aN)<;>cases decide (x.result=y.result)<;>cases decide (x.ops=y.ops)<;>rfl
  ·intro self i o q e1 e2 ho hq e3 e4;have ha:=Y5 o ho
   simp only[iF,aw,e3,aE,e1,e2,bZ,hD,cw,qb,cD];rw[wH];by_cases Tz:o.args.length=q.args.length
   ·have h1:decide (au o.args=au q.args)=true:=bH (by show(o.args.length:Int)=q.args.length;omega)
    rw[kL (fun x y=>decide (x=y)) Tz (self ((i+1:Nat):Int)) (by omega) ?_ ?_ (by omega),vp,h1]
    ·cases decide (o.kind=q.kind)<;>cases decide (o.name=q.name)<;>cases decide (o.num=q.num)<;>cases decide (o.args=q.args)<;>rfl
    ·intro Lr j a b f1 f2 _ _ f3 f4;simp only[iE,aw,f3,aE,f1,f2,cw,cD,f4];cases decide (a=b)<;>rfl
    ·intro Lr f;simp only[iE,aw,f,aM,e4]
   ·have h1:decide (au o.args=au q.args)=false:=bT (by show¬(o.args.length:Int)=q.args.length;omega)
    rw[h1,B6 Tz];simp
  ·intro self f;simp only[iF,aw,f,aM]
 ·have h1:decide (au x.ops=au y.ops)=false:=bT (by show¬(x.ops.length:Int)=y.ops.length;omega)
  rw[h1,B6 hl];simp
theorem uu{c d:af}(h:Szd c):dP al .al n c d=some (decide (c=d)):=by
 have hcd:decide (c=d)=decide (c.ab=d.ab):=by cases c;cases d;simp
 rw[hcd];unfold dP;simp only[aw,cw,cD];by_cases hl:c.ab.length=d.ab.length
 ·have h0:decide (au c.ab=au d.ab)=true:=bH (by show(c.ab.length:Int)=d.ab.length;omega)
  have hb:=h.bl
  rw[kL (fun x y=>decide (x=y)) hl (some true) (by omega) ?_ ?_ (by omega),vp,h0]
  ·cases decide (c.ab=d.ab)<;>rfl
  ·intro self i x y e1 e2 hx hy e3 e4;have Xj:=h.br x hx
   simp only[qo,aw,e3,aE,e1,e2,bZ,hD,cw,qb,cD];rw[Ye];by_cases Tz:x.ae.length=y.ae.length
   ·have h1:decide (au x.ae=au y.ae)=true:=bH (by show(x.ae.length:Int)=y.ae.length;omega)
    rw[kL (fun x y=>decide (x=y)) Tz (self ((i+1:Nat):Int)) (by omega) ?_ ?_ (by omega),vp,h1]
    ·cases decide (x.name=y.name)<;>cases decide (x.aG=y.aG)<;>cases decide (x.ae=y.ae)<;>rfl
    ·intro Lr j a b f1 f2 ha _ f3 f4;simp only[qn,aw,f3,aE,f1,f2,cw,f4,BJ hn (h.op x hx a ha) (h.ar x hx a ha)];cases decide (a=b)<;>rfl
    ·intro Lr f;simp only[qn,aw,f,aM,e4]
   ·have h1:decide (au x.ae=au y.ae)=false:=bT (by show¬(x.ae.length:Int)=y.ae.length;omega)
    rw[h1,B6 Tz];simp
  ·intro self f;simp only[qo,aw,f,aM]
 ·have h1:decide (au c.ab=au d.ab)=false:=bT (by show¬(c.ab.length:Int)=d.ab.length;omega)
  rw[h1,B6 hl];simp
end
end Ab
namespace Ab
open Go
set_option maxRecDepth 10000
section
variable{κ β:Type}[DecidableEq κ]
end
def tl(sl:List Int)(o:aH):aH:=⟨o.kind,o.name,o.num,la sl o.args⟩
def Fe:List aH→List aH×List Int→List aH×List Int
 |[],st=>st
 |o::r,st=>Fe r (bif decide (0≤iI (fun q=>decide (q=tl st.2 o)) st.1)then(st.1,st.2++[iI (fun q=>decide (q=tl st.2 o)) st.1])else(st.1++[tl st.2 o],st.2++[(st.1.length:Int)]))
def NU(x:ah):ah:=⟨x.head,x.aN,(Fe x.ops ([],[])).1,(Fe x.ops ([],[])).2.getD x.result.toNat 0⟩
section
variable{n:Nat}(hn:100<n)
 include hn
theorem Df{l m:List Int}(hl:l.length≤100):da al .al n l m=some (decide (l=m)):=by
 unfold da;simp only[aw,cw,cD];by_cases MA:l.length=m.length
 ·have h0:decide (au l=au m)=true:=bH (by show(l.length:Int)=m.length;omega)
  rw[h0,kL (fun x y=>decide (x=y)) MA (some true) (by omega) ?_ ?_ (by omega),vp]
  ·cases decide (l=m)<;>rfl
  ·intro self i x y e1 e2 _ _ e3 e4;simp only[iz,e3,aE,e1,e2,aw,cw,cD,e4];cases decide (x=y)<;>rfl
  ·intro self e;simp only[iz,e,aM]
 ·have h0:decide (au l=au m)=false:=bT (by show¬(l.length:Int)=m.length;omega)
  rw[h0,B6 MA];rfl
end
end Ab
namespace Ab
open Go
set_option maxRecDepth 10000
section
variable{n:Nat}(hn:100<n)
 include hn
theorem uw{o q:aH}(hl:o.args.length≤50):j5 al .al n o q=some (decide (o=q)):=by
 unfold j5;simp only[aw,bZ,hD,cw,qb,cD];rw[wH];by_cases Tz:o.args.length=q.args.length
 ·have h1:decide (au o.args=au q.args)=true:=bH (by show(o.args.length:Int)=q.args.length;omega)
  rw[kL (fun x y=>decide (x=y)) Tz (some true) (by omega) ?_ ?_ (by omega),vp,h1]
  ·cases decide (o.kind=q.kind)<;>cases decide (o.name=q.name)<;>cases decide (o.num=q.num)<;>cases decide (o.args=q.args)<;>rfl
  ·intro Lr j a b f1 f2 _ _ f3 f4;simp only[ql,aw,f3,aE,f1,f2,cw,cD,f4];cases decide (a=b)<;>rfl
  ·intro Lr f;simp only[ql,aw,f,aM]
 ·have h1:decide (au o.args=au q.args)=false:=bT (by show¬(o.args.length:Int)=q.args.length;omega)
  rw[h1,B6 Tz];simp
end
end Ab
namespace Ab
open Go
set_option maxRecDepth 10000
section
variable{n:Nat}(hn:100<n)
 include hn
end
end Ab
namespace Ab
open Go
set_option maxRecDepth 10000
inductive Ht(x:ah):Nat→Prop where
 |call {i:Nat} {o:aH} {a:Int} (ho:x.ops[i]? =some o) (hc:aL o=true) (ha:a∈o.args):Ht x a.toNat
 |node {i:Nat} {o:aH} {a:Int} (hi:Ht x i) (ho:x.ops[i]? =some o) (hk:o.kind=3) (ha:a∈o.args):Ht x a.toNat
inductive Reach(x:ah)(s:Nat):Nat→Prop where
 |refl:Reach x s s
 |node {i:Nat} {o:aH} {a:Int} (hi:Reach x s i) (ho:x.ops[i]? =some o) (hk:o.kind=3) (ha:a∈o.args):Reach x s a.toNat
theorem Reach.L9{x:ah}{s j:Nat}(h:Reach x s j)(hs:Ht x s):Ht x j:=by
 induction h with
 |refl=>exact hs
 |node _ ho hk ha ih=>exact .node ih ho hk ha
theorem Reach.step{x:ah}{s j:Nat}{o:aH}{a:Int}(ho:x.ops[s]? =some o)(hk:o.kind=3)(ha:a∈o.args)(h:Reach x a.toNat j):Reach x s j:=by
 induction h with
 |refl=>exact .node .refl ho hk ha
 |node _ C6 kh ha' ih=>exact .node ih C6 kh ha'
abbrev On(l:List Bool)(j:Nat):Prop:=l.getD j false=true
def KH(x:ah)(l:List Bool)(j:Nat):Prop:= ∀o,x.ops[j]? =some o→o.kind=3→ ∀a∈o.args,On l a.toNat
theorem KH.mono{x:ah}{l l':List Bool}{j:Nat}(h:KH x l j)(hl: ∀j,On l j→On l' j):KH x l' j:=fun o ho hk a ha=>hl _ (h o ho hk a ha)
theorem ahF{l:List Bool}{i j:Nat}(hi:i<l.length):On (l.set i true) j↔i=j∨On l j:=by
 unfold On;rw[oY];by_cases h:i=j
 ·subst h;rw[if_pos ⟨rfl,hi⟩];exact⟨fun _=> .inl rfl,fun _=>rfl⟩
 ·rw[if_neg (fun hh=>h hh.1)];exact⟨.inr,fun hh=>hh.resolve_left h⟩
section
variable{α R S A:Type}
end
section
variable{n:Nat}(hn:100<n)
 include hn
end
end Ab
namespace Ab
open Go
set_option maxRecDepth 10000
def tq(l:List Bool)(i:Nat)(o:aH):Bool:=aL o||(decide (o.kind=3)&&l.getD i false)
def HZ(x:ah):Nat→List Bool→List Bool
 |0,l=>l
 |i+1,l=>match x.ops[i]? with
  |none=>l
  |some o=>HZ x i (bif tq l i o then qc true o.args l else l)
def wJ(x:ah):List Bool:=HZ x x.ops.length (List.replicate x.ops.length false)
theorem tg{j:Nat}: ∀{args:List Int} {l:List Bool},(∀a∈args,a.toNat<l.length)→(On (qc true args l) j↔(∃a∈args,a.toNat=j)∨On l j)
 |[],l,_=>by simp[qc]
 |a::r,l,h=>by
  have e:qc true (a::r) l=qc true r (l.set a.toNat true):=by unfold qc;rw[List.foldl_cons,Bool.or_true]
  rw[e,tg (fun b hb=>by rw[List.length_set];exact h b (by simp[hb])),ahF (h a (by simp))];simp only[List.mem_cons,exists_eq_or_imp,or_assoc];constructor
  ·rintro(h|h|h)
   ·exact .inr (.inl h)
   ·exact .inl h
   ·exact .inr (.inr h)
  ·rintro(h|h|h)
   ·exact .inr (.inl h)
   ·exact .inl h
   ·exact .inr (.inr h)
theorem L8{x:ah}(hx:ua x): ∀(i:Nat) (l:List Bool),i≤x.ops.length→l.length=x.ops.length→(∀j,On l j→Ht x j)→(∀q o,i≤q→x.ops[q]? =some o→aL o=true→ ∀a∈o.args,On l a.toNat)→
  (∀q,i≤q→On l q→KH x l q)→ ∀j,On (HZ x i l) j↔Ht x j
 |0,l,_,hl,h1,h2,h3,j=>⟨h1 j,fun h=>by
  show On l j
  induction h with
  |call ho hc ha=>exact h2 _ _ (Nat.zero_le _) ho hc _ ha
  |node _ ho hk ha ih=>exact h3 _ (Nat.zero_le _) ih _ ho hk _ ha⟩
 |i+1,l,hi,hl,h1,h2,h3,j=>by
  have ho:x.ops[i]? =some x.ops[i]:=fp hi
  have e:HZ x (i+1) l=HZ x i (bif tq l i x.ops[i]then qc true x.ops[i].args l else l):=by
   conv=>lhs;unfold HZ
   rw[ho]
  rw[e];generalize x.ops[i]=o at ho;have aV: ∀a∈o.args,a.toNat<l.length:=fun a ha=>by have:=hx.args i o ho a ha;omega
  have QH: ∀j,On l j→On (bif tq l i o then qc true o.args l else l) j:=fun j hj=>by
   cases tq l i o with
   |true=>exact(tg aV).2 (.inr hj)
   |false=>exact hj
  have Xb: ∀q,i≤q→On (bif tq l i o then qc true o.args l else l) q→On l q:=fun q hq hj=>by
   cases hu:tq l i o with
   |false=>rw[hu]at hj;exact hj
   |true=>
    rw[hu]at hj;rcases(tg aV).1 hj with⟨a,ha,Xl⟩|h
    ·have:=hx.args i o ho a ha;omega
    ·exact h
  refine L8 hx i _ (by omega) (by cases tq l i o<;>simp[xJ,hl]) (fun q hq=>?_) (fun q o' hq C6 hc a ha=>?_) (fun q hq SK=>?_) j
  ·cases hu:tq l i o with
   |false=>rw[hu]at hq;exact h1 q hq
   |true=>
    rw[hu]at hq;rcases(tg aV).1 hq with⟨a,ha,rfl⟩|h
    ·unfold tq at hu;simp only[Bool.or_eq_true,Bool.and_eq_true,decide_eq_true_eq]at hu;rcases hu with hc|⟨hk,SK⟩
     ·exact .call ho hc ha
     ·exact .node (h1 i SK) ho hk ha
    ·exact h1 q h
  ·by_cases hqi:q=i
   ·subst hqi;rw[ho]at C6;cases C6;have:tq l q o=true:=by unfold tq;rw[hc];rfl
    rw[this];exact(tg aV).2 (.inl ⟨a,ha,rfl⟩)
   ·exact QH _ (h2 q o' (by omega) C6 hc a ha)
  ·have anS:=Xb q hq SK
   by_cases hqi:q=i
   ·subst hqi;intro o' C6 hk a ha;rw[ho]at C6;cases C6;have:tq l q o=true:=by
     unfold tq;rw[bH hk,show l.getD q false=true from anS];simp
    rw[this];exact(tg aV).2 (.inl ⟨a,ha,rfl⟩)
   ·exact(h3 q (by omega) anS).mono QH
theorem Wi{x:ah}(hx:ua x)(j:Nat):On (wJ x) j↔Ht x j:=by
 have AQ: ∀j,¬On (List.replicate x.ops.length false) j:=fun j h=>by
  unfold On at h;rw[List.getD_eq_getElem?_getD,List.getElem?_replicate]at h
  split at h<;>simp at h
 refine L8 hx _ _ (Nat.le_refl _) (by simp) (fun j h=>absurd h (AQ j)) (fun q o hq ho=>?_) (fun q hq h=>absurd h (AQ q)) j;have:=(bh.1 ho).1
 omega
def zl(nd:List Bool)(i:Nat)(o:aH):aH:=bif decide (o.kind=4)&& !nd.getD i false then⟨5,o.name,o.num,o.args⟩else o
def pE(nd:List Bool):List aH→Nat→List aH
 |[],_=>[]
 |o::r,i=>zl nd i o::pE nd r (i+1)
def AK(x:ah):ah:=⟨x.head,x.aN,pE (wJ x) x.ops 0,x.result⟩
section
variable{n:Nat}(hn:100<n)
 include hn
end
end Ab
namespace Ab
open Go
set_option maxRecDepth 10000
def tF(i:Nat):List Int:=(List.range i).map fun(j:Nat)=>(j:Int)
theorem tE(i:Nat):(tF i).length=i:=by simp[tF]
theorem B9(i:Nat):tF (i+1)=tF i++[(i:Int)]:=by simp[tF,List.range_succ]
theorem FX{i:Nat}{a:Int}(h0:0≤a)(h:a<i):(tF i).getD a.toNat 0=a:=by
 have:a.toNat<i:=by omega
 simp[tF,List.getD_eq_getElem?_getD,this];omega
theorem HI{i:Nat}{args:List Int}(h: ∀a∈args,0≤a∧a<i):la (tF i) args=args:=by
 unfold la
 conv=>rhs;rw[←List.map_id args]
 apply List.map_congr_left;intro a ha;rw[FX (h a ha).1 (h a ha).2];rfl
theorem FP(nd:List Bool): ∀(r:List aH) (i:Nat),(pE nd r i).length=r.length
 |[],i=>rfl
 |o::r,i=>by simp[pE,FP nd r]
section
variable{n:Nat}(hn:100<n)
 include hn
end
end Ab
namespace Ab
open Go
set_option maxRecDepth 10000
theorem Bm.kind{c:af}(h:Bm c){b:ai}(hb:b∈c.ab){x:ah}(hx:x∈b.ae){o:aH}(ho:o∈x.ops):aL o=decide (3<o.kind):=by
 obtain⟨i,hi⟩:=List.getElem?_of_mem ho;have h1:=oP (h.ops b hb x hx).1 i o hi
 have h2:(decide (o.kind<1)||decide (5<o.kind))=false:=by
  unfold CN at h1;cases hk:(decide (o.kind<1)||decide (5<o.kind))with
  |false=>rfl
  |true=>rw[hk]at h1;cases h1
 simp only[Bool.or_eq_false_iff,decide_eq_false_iff_not]at h2;unfold aL;rw[←Bool.decide_or,decide_eq_decide];omega
theorem yj.szd{c:af}(h:yj c):Szd c:=
 ⟨by have:=h.bl;omega,fun b hb=>by have:=h.br b hb;omega,fun b hb x hx=>by have:=h.op b hb x hx;omega,fun b hb x hx o ho=>by have:=h.ar b hb x hx o ho;omega⟩
theorem Z7:Szd ⟨[]⟩:=⟨by simp,fun b hb=>by simp at hb,fun b hb=>by simp at hb,fun b hb=>by simp at hb⟩
structure OpF(c:af)(b:ai)(x:ah)(i:Nat)(o:aH):Prop where
 k:1≤o.kind∧o.kind≤5
 n0:0≤o.num
 take:o.kind=1→o.num<b.aG
 below:o.kind=2→o.num<x.aN
 args: ∀a∈o.args,0≤a∧a<i
 call:aL o=true→0≤find c o.name∧(o.args.length:Int)=mb c (find c o.name)
structure BlF(b:ai):Prop where
 n:1≤b.ae.length∧b.ae.length≤6
 len: ∀x∈b.ae,x.ops.length≤60
 ar:0≤b.aG∧b.aG≤4
 aN: ∀x∈b.ae,0≤x.aN∧x.aN≤4
 bare: ∀x∈b.ae,x.head=⟨#[]⟩→b.ae.length=1∧x.aN=0
 L9:b.aG=0→ ∀x∈b.ae,x.head=⟨#[]⟩
 keys:(b.ae.map vO).Nodup
theorem bz{c:Bool}{k R:Int}(hk:k≠0)(h:(bif c then k else R)=0):c=false∧R=0:=by
 cases c with
 |true=>exact absurd h hk
 |false=>exact⟨rfl,h⟩
theorem CP{b:ai}(h:jy b=0):BlF b:=by
 unfold jy at h;obtain⟨h1,h⟩:=bz (by decide) h;obtain⟨h2,h⟩:=bz (by decide) h;obtain⟨h3,h⟩:=bz (by decide) h;obtain⟨h4,h⟩:=bz (by decide) h;obtain⟨h5,_⟩:=bz (by decide) h;simp only[Bool.or_eq_false_iff,decide_eq_false_iff_not,Bool.not_eq_false',List.all_eq_true]at h1 h2;simp only[Bool.or_eq_false_iff,Bool.and_eq_false_iff,decide_eq_false_iff_not,Bool.not_eq_false',List.all_eq_true,List.any_eq_false]at h4;refine⟨by omega,fun x hx=>?_,by omega,fun x hx=>?_,fun x hx hh=>?_,fun ha x hx=>?_,?_⟩
 ·have:=h1.2 x hx;simp[r6]at this;omega
 ·have:=h2.2 x hx;simp[nc]at this;omega
 ·have:=h4.1 x hx
  simp[alone,fG,hh]at this;exact⟨by omega,this.2⟩
 ·have:=(h4.2.resolve_left (by simp[ha])) x hx
  simpa[fG]using this
 ·have:=A9 b.ae [] (by simp)
  rw[h5]at this;simp at this;exact this
theorem V3{c:af}{b:ai}{x:ah}{i:Nat}{o:aH}(hb:BlF b)(hx:x∈b.ae)(h:CN c b x i o=0):OpF c b x i o:=by
 have ha:=Aj h
 unfold CN at h;obtain⟨h1,h⟩:=bz (by decide) h;obtain⟨h2,h⟩:=bz (by decide) h;obtain⟨h3,h⟩:=bz (by decide) h;obtain⟨h4,h⟩:=bz (by decide) h;obtain⟨h5,h⟩:=bz (by decide) h;simp only[Bool.or_eq_false_iff,decide_eq_false_iff_not]at h1 h3;have hk:=hb.aN x hx
 have Y5:=hb.ar
 refine⟨by omega,by omega,fun hk1=>?_,fun F6=>?_,ha,fun hc=>?_⟩
 ·have:=h3.2
  unfold DH at this;rw[hk1,bH rfl,aE,jB (by omega)]at this;omega
 ·have:=h3.2
  unfold DH at this;rw[F6,bT (by decide),aM,bH rfl,aE,jB (by omega)]at this;omega
 ·simp only[Bool.or_eq_false_iff,Bool.and_eq_false_iff,decide_eq_false_iff_not]at h5;rw[hc,Bool.not_true,aM]at h;obtain⟨h6,_⟩:=bz (by decide) h;simp only[Bool.or_eq_false_iff,Bool.not_eq_false',decide_eq_true_eq]at h6;have h7:=h5.2.resolve_left (by simp[hc])
  exact⟨by omega,h6.1⟩
def IE(c:af)(s:ByteArray):ai:=(c.ab[(find c s).toNat]?).getD default
theorem Yc{c:af}{s:ByteArray}(h:0≤find c s):gI c.ab (find c s)=some (IE c s)∧IE c s∈c.ab∧mb c (find c s)=(IE c s).aG:=by
 have aV:(find c s).toNat<c.ab.length:=by
  have:=gO (fun b=>decide (b.name=s)) c.ab
  unfold find at h ⊢;omega
 have he:c.ab[(find c s).toNat]? =some (IE c s):=by unfold IE;simp[aV]
 refine⟨by unfold gI;rw[if_pos h];exact he,jK he,?_⟩;unfold mb;rw[he];rfl
structure Rt(c:af):Prop where
 ck:yj c
 dL:Bm c
 bl: ∀b∈c.ab,BlF b
 op: ∀b∈c.ab,∀x∈b.ae,∀(i:Nat) (o:aH),x.ops[i]? =some o→OpF c b x i o
theorem Uq{c:af}(hc:yj c)(h:bS c=0):Rt c:=by
 have hg:=Gy h
 refine⟨hc,hg,fun b hb=>CP (hg.right b hb),fun b hb x hx i o ho=>?_⟩;have:=oP (hg.ops b hb x hx).1 i o ho
 rw[Nat.zero_add]at this;exact V3 (CP (hg.right b hb)) hx this
def FC(x:ah):Bool:=x.ops.all fun o=> !aL o
def OO(b:ai):ah:=b.ae.headD default
def JO(b:ai):Bool:=decide (b.ae.length=1)&&(decide ((OO b).head=⟨#[]⟩)&&FC (OO b))
abbrev Ch:=List aH→List Int→aH→Option ah
def Mu(c:af):Ch:=fun _ _ o=>bif aL o&&JO (IE c o.name)then some (OO (IE c o.name))else none
def aeb(q:aH)(y:ah):Bool:=decide (y.head=q.name)&&decide (y.aN=(q.args.length:Int))
def Mp(c:af):Ch:=fun out args o=>
 bif aL o&&(!decide ((OO (IE c o.name)).head=⟨#[]⟩)&&decide ((out.getD (args.getD 0 0).toNat default).kind=3))then
  ((IE c o.name).ae.find? (aeb (out.getD (args.getD 0 0).toNat default))).filter FC
 else none
def OH(args:List Int):List aH→List aH×List Int→List aH×List Int
 |[],st=>st
 |q::r,st=>OH args r (bif decide (q.kind=1)then(st.1,st.2++[args.getD q.num.toNat 0])else
   bif decide (q.kind=2)then(st.1,st.2++[(st.1.getD (args.getD 0 0).toNat default).args.getD q.num.toNat 0])
   else(st.1++[tl st.2 q],st.2++[(st.1.length:Int)]))
def OQ(y:ah):Nat:=y.ops.countP fun q=>decide (q.kind=3)
def amD(ch:Ch)(N i:Nat)(o:aH)(st:List aH×List Int):List aH×List Int:=
 match ch st.1 (la st.2 o.args) o with
 |some y=>bif decide (st.1.length+OQ y+(N - i - 1)≤60)then
   ((OH (la st.2 o.args) y.ops (st.1,[])).1,st.2++[(OH (la st.2 o.args) y.ops (st.1,[])).2.getD y.result.toNat 0])
  else(st.1++[tl st.2 o],st.2++[(st.1.length:Int)])
 |none=>(st.1++[tl st.2 o],st.2++[(st.1.length:Int)])
def VT(ch:Ch)(N:Nat):List aH→Nat→List aH×List Int→List aH×List Int
 |[],_,st=>st
 |o::r,i,st=>VT ch N r (i+1) (amD ch N i o st)
def LL(ch:Ch)(x:ah):ah:=⟨x.head,x.aN,(VT ch x.ops.length x.ops 0 ([],[])).1,(VT ch x.ops.length x.ops 0 ([],[])).2.getD x.result.toNat 0⟩
def apv(out:List aH):Prop:= ∀(j:Nat) (q:aH),out[j]? =some q→(∀a∈q.args,0≤a∧a<j)∧q.args.length≤50
def avT(out:List aH)(sl:List Int):Prop:= ∀a∈sl,0≤a∧a<(out.length:Int)
structure Fit(ar kd:Int)(y:ah):Prop where
 dL:ua y
 len:y.ops.length≤60
 k: ∀q∈y.ops,q.kind=1∨q.kind=2∨q.kind=3
 n0: ∀q∈y.ops,0≤q.num
 take: ∀q∈y.ops,q.kind=1→q.num<ar
 below: ∀q∈y.ops,q.kind=2→q.num<kd
theorem tN{l:List Int}{i:Nat}(h:i<l.length):l.getD i 0∈l:=by
 rw[List.getD_eq_getElem?_getD,fp h];exact List.getElem_mem h
theorem uU{α:Type}{l:List α}{i:Nat}{d:α}(h:i<l.length):l[i]? =some (l.getD i d):=by rw[List.getD_eq_getElem?_getD,fp h];rfl
theorem getD_congr{α:Type}{l m:List α}{i:Nat}{d:α}(h:l[i]? =m[i]?):l.getD i d=m.getD i d:=by rw[List.getD_eq_getElem?_getD,h,List.getD_eq_getElem?_getD]
def Qa(args:List Int)(q:aH)(st:List aH×List Int):List aH×List Int:=
 bif decide (q.kind=1)then(st.1,st.2++[args.getD q.num.toNat 0])else
  bif decide (q.kind=2)then(st.1,st.2++[(st.1.getD (args.getD 0 0).toNat default).args.getD q.num.toNat 0])
  else(st.1++[tl st.2 q],st.2++[(st.1.length:Int)])
theorem HS(args:List Int)(q:aH)(r:List aH)(st:List aH×List Int):OH args (q::r) st=OH args r (Qa args q st):=rfl
section
variable{n:Nat}(hn:100<n)
 include hn
end
end Ab
namespace Ab
open Go
set_option maxRecDepth 10000
section
variable{n:Nat}(hn:100<n)
 include hn
end
end Ab
namespace Ab
open Go
set_option maxRecDepth 10000
structure InS(st:List aH×List Int)(i:Nat):Prop where
 len:st.2.length=i
 oo:apv st.1
 sl:avT st.1 st.2
 many:st.1.length≤60+i
theorem HR{args:List Int}: ∀(r:List aH) (st:List aH×List Int),(∀q∈r,q.kind=1∨q.kind=2∨q.kind=3)→(OH args r st).1.length=st.1.length+r.countP fun q=>decide (q.kind=3)
 |[],st,_=>rfl
 |q::r,st,h=>by
  rw[HS,HR r _ (fun p hp=>h p (List.mem_cons_of_mem _ hp)),List.countP_cons];unfold Qa;rcases h q (List.mem_cons_self ..)with h1|h1|h1
  ·rw[bH h1,aE];simp[h1]
  ·rw[bT (by omega),aM,bH h1,aE];simp[h1]
  ·rw[bT (by omega),aM,bT (by omega),aM];simp[h1];omega
theorem InS.args{x:ah}(hx:ua x){st:List aH×List Int}{i:Nat}{o:aH}(h:InS st i)(ho:x.ops[i]? =some o): ∀a∈o.args,0≤a∧a<(st.2.length:Int):=fun a ha=>by have:=hx.args i o ho a ha;rw[h.len];exact this
theorem ai2{c:af}(rt:Rt c){B:ai}(hB:B∈c.ab){y:ah}(hy:y∈B.ae)(hp:FC y=true):Fit B.aG y.aN y:=by
 have yb: ∀q∈y.ops,∃i,OpF c B y i q:=fun q hq=>by
  obtain⟨i,hi⟩:=List.getElem?_of_mem hq;exact⟨i,rt.op B hB y hy i q hi⟩
 refine⟨rt.dL.x rt.ck hB hy,(rt.bl B hB).len y hy,fun q hq=>?_,fun q hq=>?_,fun q hq hk=>?_,fun q hq hk=>?_⟩
 ·obtain⟨i,hf⟩:=yb q hq;have h1:=List.all_eq_true.1 hp q hq
  simp[aL]at h1;have:=hf.k
  omega
 ·obtain⟨i,hf⟩:=yb q hq;exact hf.n0
 ·obtain⟨i,hf⟩:=yb q hq;exact hf.take hk
 ·obtain⟨i,hf⟩:=yb q hq;exact hf.below hk
theorem L2{b:ai}(h:1≤b.ae.length):OO b∈b.ae:=by
 unfold OO;cases hb:b.ae with
 |nil=>rw[hb]at h;simp at h
 |cons x r=>exact List.mem_cons_self ..
section
variable{α β:Type}
theorem Cv{q:α→α→Bool}: ∀{l:List α},(∀x∈l,q x x=true)→jA q l l=true
 |[],_=>rfl
 |x::r,h=>by simp only[jA,h x (by simp),Bool.true_and];exact Cv fun y hy=>h y (by simp[hy])
theorem Cu{q:α→α→Bool}(h: ∀x y,q x y=true→q y x=true): ∀{l m:List α},jA q l m=true→jA q m l=true
 |[],[],_=>rfl
 |[],_::_,hh=>by cases hh
 |_::_,[],hh=>by cases hh
 |x::r,y::s,hh=>by
  simp only[jA,Bool.and_eq_true]at hh ⊢;exact⟨h _ _ hh.1,Cu h hh.2⟩
theorem zL{q:α→α→Bool}(h: ∀x y z,q x y=true→q y z=true→q x z=true): ∀{l m k:List α},jA q l m=true→jA q m k=true→jA q l k=true
 |[],[],[],_,_=>rfl
 |[],_::_,_,hh,_=>by cases hh
 |_::_,[],_,hh,_=>by cases hh
 |_,[],_::_,_,hh=>by cases hh
 |_,_::_,[],_,hh=>by cases hh
 |x::r,y::s,z::t,hh,h2=>by
  simp only[jA,Bool.and_eq_true]at hh h2 ⊢;exact⟨h _ _ _ hh.1 h2.1,zL h hh.2 h2.2⟩
theorem Cw{q q':α→β→Bool}: ∀{l:List α} {m:List β},(∀x∈l,∀y∈m,q x y=true→q' x y=true)→jA q l m=true→jA q' l m=true
 |[],[],_,_=>rfl
 |[],_::_,_,hh=>by cases hh
 |_::_,[],_,hh=>by cases hh
 |x::r,y::s,h,hh=>by
  simp only[jA,Bool.and_eq_true]at hh ⊢;exact⟨h x (by simp) y (by simp) hh.1,Cw (fun a ha b hb=>h a (by simp[ha]) b (by simp[hb])) hh.2⟩
end
abbrev Rel:=Nat→Nat→Bool
structure nL(R:Rel):Prop where
 refl: ∀i,R i i=true
 symm: ∀i k,R i k=true→R k i=true
 trans: ∀i k j,R i k=true→R k j=true→R i j=true
def Bq(c:af)(R:Rel)(o q:aH):Bool:=
 ((decide (o.kind=q.kind)&&decide (o.num=q.num))&&decide (o.args=q.args))&&(bif aL o then R (find c o.name).toNat (find c q.name).toNat else decide (o.name=q.name))
def mX(c:af)(R:Rel)(x y:ah):Bool:=((decide (x.head=y.head)&&decide (x.aN=y.aN))&&decide (x.result=y.result))&&jA (Bq c R) x.ops y.ops
def mB(c:af)(R:Rel)(b d:ai):Bool:=decide (b.aG=d.aG)&&jA (mX c R) b.ae d.ae
theorem vo{o q:aH}(h:o.kind=q.kind):aL o=aL q:=by unfold aL;rw[h]
section
variable{c:af}{R S:Rel}
theorem r9{o q:aH}:Bq c R o q=true↔o.kind=q.kind∧o.num=q.num∧o.args=q.args∧(aL o=true→R (find c o.name).toNat (find c q.name).toNat=true)∧(aL o=false→o.name=q.name):=by
 unfold Bq;cases aL o<;>simp[and_assoc]
theorem WC(h:nL R)(o:aH):Bq c R o o=true:=r9.2 ⟨rfl,rfl,rfl,fun _=>h.refl _,fun _=>rfl⟩
theorem WB(h:nL R){o q:aH}(ho:Bq c R o q=true):Bq c R q o=true:=by
 obtain⟨h1,h2,h3,h4,h5⟩:=r9.1 ho;have:=vo h1
 exact r9.2 ⟨h1.symm,h2.symm,h3.symm,fun hc=>h.symm _ _ (h4 (by rw[this];exact hc)),fun hc=>(h5 (by rw[this];exact hc)).symm⟩
theorem Sk(h:nL R){o q p:aH}(h1:Bq c R o q=true)(h2:Bq c R q p=true):Bq c R o p=true:=by
 obtain⟨a1,a2,a3,a4,a5⟩:=r9.1 h1;obtain⟨b1,b2,b3,b4,b5⟩:=r9.1 h2;have:=vo a1
 exact r9.2 ⟨a1.trans b1,a2.trans b2,a3.trans b3,fun hc=>h.trans _ _ _ (a4 hc) (b4 (by rw[←this];exact hc)),fun hc=>(a5 hc).trans (b5 (by rw[←this];exact hc))⟩
theorem Sl(h: ∀s t,S (find c s).toNat (find c t).toNat=true→R (find c s).toNat (find c t).toNat=true){o q:aH}(ho:Bq c S o q=true):Bq c R o q=true:=by
 obtain⟨h1,h2,h3,h4,h5⟩:=r9.1 ho;exact r9.2 ⟨h1,h2,h3,fun hc=>h _ _ (h4 hc),h5⟩
theorem wM{x y:ah}:mX c R x y=true↔x.head=y.head∧x.aN=y.aN∧x.result=y.result∧jA (Bq c R) x.ops y.ops=true:=by
 unfold mX;simp[and_assoc]
theorem aaQ(h:nL R)(x:ah):mX c R x x=true:=wM.2 ⟨rfl,rfl,rfl,Cv fun o _=>WC h o⟩
theorem aaP(h:nL R){x y:ah}(hx:mX c R x y=true):mX c R y x=true:=by
 obtain⟨h1,h2,h3,h4⟩:=wM.1 hx;exact wM.2 ⟨h1.symm,h2.symm,h3.symm,Cu (fun _ _=>WB h) h4⟩
theorem Wz(h:nL R){x y z:ah}(h1:mX c R x y=true)(h2:mX c R y z=true):mX c R x z=true:=by
 obtain⟨a1,a2,a3,a4⟩:=wM.1 h1;obtain⟨b1,b2,b3,b4⟩:=wM.1 h2;exact wM.2 ⟨a1.trans b1,a2.trans b2,a3.trans b3,zL (q:=Bq c R) (fun _ _ _=>Sk h) a4 b4⟩
theorem WA(h: ∀s t,S (find c s).toNat (find c t).toNat=true→R (find c s).toNat (find c t).toNat=true){x y:ah}(hx:mX c S x y=true):mX c R x y=true:=by
 obtain⟨h1,h2,h3,h4⟩:=wM.1 hx;exact wM.2 ⟨h1,h2,h3,Cw (fun _ _ _ _=>Sl h) h4⟩
theorem qW{b d:ai}:mB c R b d=true↔b.aG=d.aG∧jA (mX c R) b.ae d.ae=true:=by
 unfold mB;simp
theorem aaS(h:nL R)(b:ai):mB c R b b=true:=qW.2 ⟨rfl,Cv fun x _=>aaQ h x⟩
theorem aaR(h:nL R){b d:ai}(hb:mB c R b d=true):mB c R d b=true:=by
 obtain⟨h1,h2⟩:=qW.1 hb;exact qW.2 ⟨h1.symm,Cu (fun _ _=>aaP h) h2⟩
theorem WD(h:nL R){b d e:ai}(h1:mB c R b d=true)(h2:mB c R d e=true):mB c R b e=true:=by
 obtain⟨a1,a2⟩:=qW.1 h1;obtain⟨b1,b2⟩:=qW.1 h2;exact qW.2 ⟨a1.trans b1,zL (q:=mX c R) (fun _ _ _=>Wz h) a2 b2⟩
theorem Mf(h: ∀s t,S (find c s).toNat (find c t).toNat=true→R (find c s).toNat (find c t).toNat=true){b d:ai}(hb:mB c S b d=true):mB c R b d=true:=by
 obtain⟨h1,h2⟩:=qW.1 hb;exact qW.2 ⟨h1,Cw (fun _ _ _ _=>WA h) h2⟩
theorem J1(h: ∀i k,S i k=true→R i k=true){b d:ai}(hb:mB c S b d=true):mB c R b d=true:=Mf (fun _ _=>h _ _) hb
end
def bL(c:af)(i:Nat):ai:=c.ab.getD i default
def Bis(c:af)(S:Rel):Prop:= ∀i k,S i k=true→i<c.ab.length∧k<c.ab.length∧mB c S (bL c i) (bL c k)=true
def Bk(f:List Int):Rel:=fun i k=>decide (f.getD i 0=f.getD k 0)
theorem Ym(f:List Int):nL (Bk f):=⟨fun i=>by simp[Bk],fun i k h=>by simp[Bk]at h ⊢;exact h.symm,fun i k j h1 h2=>by simp[Bk]at h1 h2 ⊢;exact h1.trans h2⟩
def cm(c:af)(f:List Int)(k i:Nat):Bool:=Bk f k i&&mB c (Bk f) (bL c k) (bL c i)
theorem IB(c:af)(f:List Int):nL (cm c f):=by
 have h:=Ym f
 refine⟨fun i=>by simp[cm,h.refl,aaS h],fun i k hh=>?_,fun i k j h1 h2=>?_⟩
 ·simp only[cm,Bool.and_eq_true]at hh ⊢;exact⟨h.symm _ _ hh.1,aaR h hh.2⟩
 ·simp only[cm,Bool.and_eq_true]at h1 h2 ⊢;exact⟨h.trans _ _ _ h1.1 h2.1,WD h h1.2 h2.2⟩
def OZ(R:Rel)(i:Nat):Int:=iI (fun k=>R k i) (List.range (i+1))
theorem wN{R:Rel}(h:nL R)(i:Nat): ∃j:Nat,OZ R i=j∧j≤i∧R j i=true∧ ∀j',R j' i=true→j≤j':=by
 have h1:0≤OZ R i:=by
  have:=wS (fun k=>R k i) (List.range (i+1))
  have h2:((List.range (i+1)).any fun k=>R k i)=true:=List.any_eq_true.2 ⟨i,by simp,h.refl i⟩
  rw[h2]at this;exact of_decide_eq_true this
 unfold OZ iI at h1 ⊢;cases hf:(List.range (i+1)).findIdx? fun k=>R k i with
 |none=>rw[hf]at h1;dsimp only at h1;omega
 |some j=>
  obtain⟨g1,g2,g3⟩:=List.findIdx?_eq_some_iff_getElem.1 hf;simp only[List.getElem_range]at g2 g3;have hj:j<i+1:=by simpa using g1
  refine⟨j,rfl,by omega,g2,fun j' hj'=>?_⟩;rcases Nat.lt_or_ge j' j with aV|Ni
  ·have:=g3 j' aV
   simp[hj']at this
  ·exact Ni
theorem OY{R:Rel}(h:nL R){i k:Nat}(DN:R i k=true):OZ R i=OZ R k:=by
 obtain⟨a,h1,h2,h3,h4⟩:=wN h i;obtain⟨b,g1,g2,g3,g4⟩:=wN h k;have:=h4 b (h.trans _ _ _ g3 (h.symm _ _ DN))
 have:=g4 a (h.trans _ _ _ h3 DN)
 omega
theorem Se{R:Rel}(h:nL R){i k:Nat}(DN:OZ R i=OZ R k):R i k=true:=by
 obtain⟨a,h1,h2,h3,h4⟩:=wN h i;obtain⟨b,g1,g2,g3,g4⟩:=wN h k;have:a=b:=by omega
 subst this;exact h.trans _ _ _ (h.symm _ _ h3) g3
def mj(c:af)(f:List Int):List Int:=(List.range 12).map fun i=>bif decide (i<c.ab.length)then OZ (cm c f) i else 0
theorem BF(c:af)(f:List Int):(mj c f).length=12:=by simp[mj]
theorem fW{c:af}(hn:c.ab.length≤12)(f:List Int)(i:Nat):(mj c f).getD i 0=bif decide (i<c.ab.length)then OZ (cm c f) i else 0:=by
 unfold mj;by_cases h:i<12
 ·simp[List.getD_eq_getElem?_getD,h]
 ·rw[bT (by omega)];simp[List.getD_eq_getElem?_getD,show¬i<12 by omega]
structure yk(c:af)(f:List Int):Prop where
 len:f.length=12
 lo: ∀i,i<c.ab.length→ ∃j:Nat,f.getD i 0=j∧j≤i∧f.getD j 0=j
 hi: ∀i,c.ab.length≤i→f.getD i 0=0
 max: ∀S,Bis c S→ ∀i k,S i k=true→f.getD i 0=f.getD k 0
theorem aoV{c:af}:yk c (List.replicate 12 0):=by
 have z: ∀i,(List.replicate 12 (0:Int)).getD i 0=0:=fun i=>by
  rw[List.getD_eq_getElem?_getD,List.getElem?_replicate];split<;>rfl
 exact⟨by simp,fun i _=>⟨0,z i,Nat.zero_le _,z 0⟩,fun i _=>z i,fun S _ i k _=>by rw[z,z]⟩
theorem Ui{c:af}(hn:c.ab.length≤12){f:List Int}(h:yk c f):yk c (mj c f):=by
 have he:=IB c f
 refine⟨BF c f,fun i hi=>?_,fun i hi=>?_,fun S hS i k DN=>?_⟩
 ·obtain⟨j,h1,h2,h3,h4⟩:=wN he i;refine⟨j,by rw[fW hn,bH hi,aE,h1],h2,?_⟩;rw[fW hn,bH (by omega),aE,OY he h3,h1]
 ·rw[fW hn,bT (by omega)];rfl
 ·obtain⟨hi,hk,hm⟩:=hS i k DN;have hR: ∀a b,S a b=true→Bk f a b=true:=fun a b Bw=>by unfold Bk;exact bH (h.max S hS a b Bw)
  have:cm c f i k=true:=by simp only[cm,Bool.and_eq_true];exact⟨hR i k DN,J1 hR hm⟩
  rw[fW hn,fW hn,bH hi,bH hk,aE,aE,OY he this]
def RN(c:af)(f:List Int):Nat:=(List.range c.ab.length).countP fun i=>decide (f.getD i 0=(i:Int))
theorem aah(c:af)(f:List Int):RN c f≤c.ab.length:=by
 unfold RN;have:=List.countP_le_length (p:=fun i:Nat=>decide (f.getD i 0=(i:Int))) (l:=List.range c.ab.length);simpa using this
theorem Uh{c:af}(hn:c.ab.length≤12){f:List Int}(h:yk c f){i:Nat}(hi:i<c.ab.length)(hr:f.getD i 0=(i:Int)):(mj c f).getD i 0=(i:Int):=by
 obtain⟨j,h1,h2,h3,h4⟩:=wN (IB c f) i;rw[fW hn,bH hi,aE,h1];simp only[cm,Bool.and_eq_true]at h3;have QK:f.getD j 0=f.getD i 0:=by have:=h3.1;simpa[Bk]using this
 obtain⟨j2,g1,g2,_⟩:=h.lo j (by omega);omega
theorem xT{p q:Nat→Bool}: ∀{l:List Nat},(∀i∈l,p i=true→q i=true)→(∃i∈l,p i=false∧q i=true)→l.countP p<l.countP q
 |[],_,h=>by obtain⟨i,hi,_⟩:=h;simp at hi
 |a::r,h,hex=>by
  simp only[List.countP_cons];have hle:r.countP p≤r.countP q:=List.countP_mono_left fun i hi hp=>h i (by simp[hi]) hp
  obtain⟨i,hi,h1,h2⟩:=hex;rcases List.mem_cons.1 hi with hi|hi
  ·subst hi;rw[h1,h2];simp;omega
  ·have:=xT (fun i hi hp=>h i (by simp[hi]) hp) ⟨i,hi,h1,h2⟩
   cases hp:p a with
   |true=>rw[h a (by simp) hp];simp;omega
   |false=>cases q a<;>simp<;>omega
theorem Rz{c:af}(hn:c.ab.length≤12){f:List Int}(h:yk c f)(ct:mj c f≠f):RN c f<RN c (mj c f):=by
 unfold RN;refine xT (fun i hi hp=>?_) ?_
 ·have hi:i<c.ab.length:=by simpa using hi
  exact bH (Uh hn h hi (of_decide_eq_true hp))
 ·
  refine Classical.byContradiction fun Mz=>ct ?_;have W1: ∀i,i<c.ab.length→(mj c f).getD i 0=(i:Int)→f.getD i 0=(i:Int):=fun i hi hs=>by
   refine Classical.byContradiction fun hh=>Mz ⟨i,by simpa using hi,bT hh,bH hs⟩
  have key: ∀i,(mj c f).getD i 0=f.getD i 0:=fun i=>by
   by_cases hi:i<c.ab.length
   ·obtain⟨j,h1,h2,h3,h4⟩:=wN (IB c f) i;have hs:(mj c f).getD i 0=(j:Int):=by rw[fW hn,bH hi,aE,h1]
    have hsj:(mj c f).getD j 0=(j:Int):=by rw[fW hn,bH (by omega),aE,OY (IB c f) h3,h1]
    have:=W1 j (by omega) hsj
    simp only[cm,Bool.and_eq_true]at h3;have QK:f.getD j 0=f.getD i 0:=by have:=h3.1;simpa[Bk]using this
    rw[hs,←QK,this]
   ·rw[h.hi i (by omega),fW hn,bT (by omega)];rfl
  apply List.ext_getElem (by rw[BF,h.len]);intro i h1 h2;have:=key i
  simpa[List.getD_eq_getElem?_getD,h1,h2]using this
structure M8(c:af)(f:List Int):Prop where
 inv:yk c f
 fix:mj c f=f
theorem M8.bis{c:af}(hn:c.ab.length≤12){f:List Int}(h:M8 c f):Bis c fun i k=>(decide (i<c.ab.length)&&decide (k<c.ab.length))&&Bk f i k:=fun i k DN=>by
 simp only[Bool.and_eq_true,decide_eq_true_eq]at DN;obtain⟨⟨hi,hk⟩,hR⟩:=DN;refine⟨hi,hk,?_⟩;have h1:OZ (cm c f) i=OZ (cm c f) k:=by
  have hR:f.getD i 0=f.getD k 0:=by simpa[Bk]using hR
  rw[←h.fix,fW hn,fW hn,bH hi,bH hk]at hR;exact hR
 have h2:=Se (IB c f) h1
 simp only[cm,Bool.and_eq_true]at h2;refine Mf (fun s t er=>?_) h2.2;have l1:find c s<c.ab.length:=gO _ _
 have l2:find c t<c.ab.length:=gO _ _
 simp only[Bool.and_eq_true,decide_eq_true_eq];exact⟨⟨by omega,by omega⟩,er⟩
end Ab
namespace Ab
open Go
set_option maxRecDepth 10000
structure Bd(m N:Nat)(l:List Int):Prop where
 len:l.length=m
 e: ∀e∈l,0≤e∧e≤N
theorem Bd.at{m N:Nat}{l:List Int}(h:Bd m N l){k:Nat}(hk:k<m):0≤l.getD k 0∧l.getD k 0≤N:=h.e _ (tN (by rw[h.len];exact hk))
section
variable{n:Nat}(hn:100<n)
 include hn
end
section
variable{n:Nat}(hn:100<n)
 include hn
end
end Ab
namespace Ab
open Go
set_option maxRecDepth 10000
theorem adx{c:af}: ∀(r:List ai) (i:Nat),my c i r=false→ ∀(j:Nat) (b:ai),r[j]? =some b→((i+j:Nat):Int)≤find c b.name
 |[],_,_,_,_,h=>by simp at h
 |b::r,i,hd,j,d,h=>by
  simp only[my,Bool.or_eq_false_iff,decide_eq_false_iff_not]at hd;cases j with
  |zero=>simp at h;subst h;have:=hd.1;omega
  |succ j=>have:=adx r (i+1) hd.2 j d (by simpa using h);omega
theorem abd{α:Type}{q:α→Bool}{l:List α}{k:Nat}{x:α}(h:l[k]? =some x)(hq:q x=true):0≤iI q l∧iI q l≤k:=by
 unfold iI;have hk:k<l.length:=(bh.1 h).1
 have hx:l[k]=x:=(bh.1 h).2
 cases e:l.findIdx? q with
 |none=>
  rw[List.findIdx?_eq_none_iff]at e;have:=e x (by rw[←hx];exact List.getElem_mem hk)
  rw[hq]at this;cases this
 |some i=>
  rw[List.findIdx?_eq_some_iff_getElem]at e;obtain⟨hi,h1,h2⟩:=e;refine⟨Int.natCast_nonneg i,?_⟩;have:i≤k:=by
   apply Nat.le_of_not_lt;intro aV;exact h2 k aV (by rw[hx];exact hq)
  exact Int.ofNat_le.2 this
theorem Ki{c:af}(hg:Bm c){k:Nat}{b:ai}(h:c.ab[k]? =some b):find c b.name=k:=by
 have h1:=adx c.ab 0 hg.names k b h
 have h2:=(abd (q:=fun x:ai=>decide (x.name=b.name)) h (by simp)).2
 unfold find at*;omega
section
variable{n:Nat}(hn:100<n)
 include hn
theorem mH{c:af}(hc:yj c)(h0:bS c=0){s:ByteArray}(h:0≤find c s):il al .al n c s=some (find c s,0):=by
 have hb:=hc.bl
 unfold il;rw[rq hn hc,h0,aw,Bi hn (by omega),aw];simp only[cw,cD,cX];rw[bT (show¬find c s<0 by omega)];rfl
theorem Lu{c:af}(hc:yj c)(h0:bS c=0){f:List Int}(hf:f.length=12)(qq:c.ab.length≤12){o q:aH}(ho:o.args.length≤100)(h1:aL o=true→0≤find c o.name)(h2:aL q=true→0≤find c q.name):
  gM al .al n o q c f=some (Bq c (Bk f) o q):=by
 unfold gM;rw[SV (y:=decide (o.args=q.args)) fun _=>Df hn ho,aw];simp only[bZ,cD,cw,qb,ei];unfold Bq;by_cases e1:o.kind=q.kind
 ·by_cases e2:o.num=q.num
  ·by_cases e3:o.args=q.args
   ·rw[bH e1,bH e2,bH e3];have jh:(bif decide (o.kind=4)then true else decide (o.kind=5))=aL o:=by unfold aL;cases decide (o.kind=4)<;>rfl
    rw[jh];simp only[Bool.not_true,aM,aE,Bool.true_and,aw];cases Is:aL o with
    |false=>rfl
    |true=>
     have hcq:aL q=true:=by rw[←vo e1];exact Is
     have l1:find c o.name<c.ab.length:=gO _ _
     have l2:find c q.name<c.ab.length:=gO _ _
     simp only[Bool.not_true,aM,aE];rw[mH hn hc h0 (h1 Is),aw,mH hn hc h0 (h2 hcq),aw,sP hf,aw,
      uV (h1 Is) (by omega),aw,uV (h2 hcq) (by omega),aw]
     rfl
   ·rw[bH e1,bH e2,bT e3];rfl
  ·rw[bH e1,bT e2];rfl
 ·rw[bT e1];rfl
theorem SY{c:af}(hc:yj c)(h0:bS c=0){f:List Int}(hf:f.length=12)(qq:c.ab.length≤12){l m:List aH}(hl:l.length≤70)
  (ha: ∀o∈l,o.args.length≤100∧(aL o=true→0≤find c o.name))(hm: ∀o∈m,aL o=true→0≤find c o.name):eT al .al n l m c f=some (jA (Bq c (Bk f)) l m):=by
 unfold eT;simp only[aw,cw,cD];by_cases MA:l.length=m.length
 ·have KU:decide (au l=au m)=true:=bH (by show(l.length:Int)=m.length;omega)
  rw[KU,kL (Bq c (Bk f)) MA (some true) (by omega) ?_ ?_ (by omega)]
  ·cases jA (Bq c (Bk f)) l m<;>rfl
  ·intro self i x y e1 e2 hx hy e3 e4;simp only[dW,e3,aE,e1,e2,aw,cw,Lu hn hc h0 hf qq (ha x hx).1 (ha x hx).2 (hm y hy),e4];cases Bq c (Bk f) x y<;>rfl
  ·intro self e;simp only[dW,e,aM]
 ·have KU:decide (au l=au m)=false:=bT (by show¬(l.length:Int)=m.length;omega)
  rw[KU,xt MA];rfl
theorem NW{c:af}(rt:Rt c)(h0:bS c=0){f:List Int}(hf:f.length=12){b d:ai}(hb:b∈c.ab)(hd:d∈c.ab){x y:ah}(hx:x∈b.ae)(hy:y∈d.ae):m0 al .al n c f x y=some (mX c (Bk f) x y):=by
 have hc:=rt.ck
 have qq:=rt.dL.some.2
 have cl: ∀{b:ai} {x:ah},b∈c.ab→x∈b.ae→ ∀o∈x.ops,aL o=true→0≤find c o.name:=fun hb hx o ho h=>by
  obtain⟨i,hi⟩:=List.mem_iff_getElem?.1 ho;exact((rt.op _ hb _ hx i o hi).call h).1
 unfold m0;have e:(⟨c.ab⟩:af)=c:=rfl
 rw[e,GZ (y:=jA (Bq c (Bk f)) x.ops y.ops) fun _=>SY hn hc h0 hf qq (hc.op b hb x hx) (fun o ho=>⟨by have:=hc.ar b hb x hx o ho;omega,cl hb hx o ho⟩) (cl hd hy),aw];simp only[bZ,cD,qb];unfold mX;cases decide (x.head=y.head)<;>cases decide (x.aN=y.aN)<;>cases decide (x.result=y.result)<;>cases jA (Bq c (Bk f)) x.ops y.ops<;>rfl
theorem XN{c:af}(rt:Rt c)(h0:bS c=0){f:List Int}(hf:f.length=12){b d:ai}(hb:b∈c.ab)(hd:d∈c.ab):dk al .al n b.ae d.ae c f=some (jA (mX c (Bk f)) b.ae d.ae):=by
 have hl:=rt.ck.br b hb
 unfold dk;simp only[aw,cw,cD];by_cases MA:b.ae.length=d.ae.length
 ·have KU:decide (au b.ae=au d.ae)=true:=bH (by show(b.ae.length:Int)=d.ae.length;omega)
  rw[KU,kL (mX c (Bk f)) MA (some true) (by omega) ?_ ?_ (by omega)]
  ·cases jA (mX c (Bk f)) b.ae d.ae<;>rfl
  ·intro self i x y e1 e2 hx hy e3 e4;simp only[cU,jz,e3,aE,e1,e2,aw,cw,sP hf,NW hn rt h0 hf hb hd hx hy,e4];cases mX c (Bk f) x y<;>rfl
  ·intro self e;simp only[cU,e,aM]
 ·have KU:decide (au b.ae=au d.ae)=false:=bT (by show¬(b.ae.length:Int)=d.ae.length;omega)
  rw[KU,xt MA];rfl
theorem MS{c:af}(rt:Rt c)(h0:bS c=0){f:List Int}(hf:f.length=12){k i:Nat}{b d:ai}(hb:c.ab[k]? =some b)(hd:c.ab[i]? =some d):eN al .al n b c f (i:Int) d=some (cm c f k i):=by
 have Kd:=jK hb
 have hdm:=jK hd
 have qq:=rt.dL.some.2
 have hk:k<c.ab.length:=(bh.1 hb).1
 have hi:i<c.ab.length:=(bh.1 hd).1
 have hfa:=Ki rt.dL hb
 unfold eN;have e:(⟨c.ab⟩:af)=c:=rfl
 rw[e,mH hn rt.ck h0 (by rw[hfa];omega),aw,sP hf,aw,hfa,uV (by omega) (by omega),aw,uV (by omega) (by omega),aw,
  GZ (y:=jA (mX c (Bk f)) b.ae d.ae) fun _=>XN hn rt h0 hf Kd hdm,aw]
 simp only[bZ,cD,Int.toNat_natCast];have e1:bL c k=b:=by unfold bL;rw[List.getD_eq_getElem?_getD,hb];rfl
 have e2:bL c i=d:=by unfold bL;rw[List.getD_eq_getElem?_getD,hd];rfl
 unfold cm mB Bk;rw[e1,e2];cases decide (f.getD k 0=f.getD i 0)<;>cases decide (b.aG=d.aG)<;>cases jA (mX c fun i k=>decide (f.getD i 0=f.getD k 0)) b.ae d.ae<;>rfl
end
end Ab
namespace Ab
open Go
set_option maxRecDepth 10000
def r5(c:af)(f:List Int)(i:Nat):List Int:=(List.range 12).map fun j=>bif decide (j<i)then OZ (cm c f) j else 0
theorem aav(c:af)(f:List Int):r5 c f 0=List.replicate 12 0:=by
 apply List.ext_getElem (by simp[r5]);intro i h1 h2;simp only[r5,List.getElem_map,List.getElem_range,List.getElem_replicate];rw[bT (Nat.not_lt_zero _)];rfl
theorem R9(c:af)(f:List Int):r5 c f c.ab.length=mj c f:=rfl
theorem xG(c:af)(f:List Int)(i:Nat):(r5 c f i).length=12:=by simp[r5]
theorem R8{c:af}{f:List Int}{i:Nat}(h:i<12):(r5 c f i).set i (OZ (cm c f) i)=r5 c f (i+1):=by
 apply List.ext_getElem (by simp[r5]);intro j h1 h2;simp only[xG]at h2;rw[List.getElem_set];by_cases e:i=j
 ·subst e;simp[r5]
 ·rw[if_neg e];simp only[r5,List.getElem_map,List.getElem_range];by_cases hj:j<i
  ·rw[bH hj,bH (by omega)]
  ·rw[bT hj,bT (by omega)]
theorem GI{c:af}{i:Nat}{b:ai}(h:c.ab[i]? =some b):bL c i=b:=by unfold bL;rw[List.getD_eq_getElem?_getD,h];rfl
theorem rk{c:af}{i:Nat}(h:i<c.ab.length):c.ab[i]? =some (bL c i):=by
 unfold bL;rw[List.getD_eq_getElem?_getD,fp h];rfl
theorem WW{α β:Type}(g:α→β)(q:β→Bool)(l:List α):iI q (l.map g)=iI (fun x=>q (g x)) l:=by
 unfold iI;rw[List.findIdx?_map];rfl
theorem take_range{c:af}{i:Nat}(h:i<c.ab.length):c.ab.take (i+1)=(List.range (i+1)).map (bL c):=by
 apply List.ext_getElem (by simp;omega);intro j h1 h2;simp only[List.length_map,List.length_range]at h2;simp only[List.getElem_take,List.getElem_map,List.getElem_range];have:=rk (c:=c) (i:=j) (by omega)
 rw[fp (by omega)]at this;exact oJ this
theorem O8{α:Type}{p q:α→Bool}{l:List α}(h: ∀x∈l,p x=q x):iI p l=iI q l:=by
 unfold iI;have:l.findIdx? p=l.findIdx? q:=by
  induction l with
  |nil=>rfl
  |cons x r ih=>rw[List.findIdx?_cons,List.findIdx?_cons,h x (by simp),ih fun y hy=>h y (by simp[hy])]
 rw[this]
section
variable{n:Nat}(hn:100<n)
 include hn
theorem SC{c:af}(rt:Rt c)(h0:bS c=0){f:List Int}(hf:f.length=12){i:Nat}(hi:i<c.ab.length):dH al .al n (c.ab.take (i+1)) c f (i:Int) (bL c i)=some (OZ (cm c f) i):=by
 have qq:=rt.dL.some.2
 unfold dH;rw[aw];refine(db (p:=fun b=>eN al .al n b c f (i:Int) (bL c i)) (fun b=>cm c f (find c b.name).toNat i) (fun b hb=>?_) (by simp;omega) (by simp;omega)).trans ?_
 ·obtain⟨k,hk⟩:=List.mem_iff_getElem?.1 (List.mem_of_mem_take hb);rw[Ki rt.dL hk,Int.toNat_natCast];exact MS hn rt h0 hf hk (rk hi)
 ·rw[take_range hi,WW];unfold OZ;refine congrArg some (O8 fun k hk=>?_);have hk:k<i+1:=by simpa using hk
  rw[Ki rt.dL (rk (c:=c) (i:=k) (by omega)),Int.toNat_natCast]
theorem Dk{c:af}(rt:Rt c)(h0:bS c=0){f:List Int}(hf:f.length=12)(K:List Int×Int→Option (List Int)): ∀(k i m:Nat),i+k=c.ab.length→k<m→
  iter (dS al .al n c f (au c.ab) K) m (r5 c f i,(i:Int))=K (mj c f,(c.ab.length:Int))
 |k,i,0,_,h=>absurd h (Nat.not_lt_zero _)
 |0,i,m+1,he,_=>by
  have:i=c.ab.length:=by omega
  subst this;show dS al .al n c f (au c.ab) K (iter _ m) (r5 c f _,_)=_;simp only[dS,cX,kb];rw[bT (by omega),aM,R9]
 |k+1,i,m+1,he,h=>by
  have qq:=rt.dL.some.2
  have hi:i<c.ab.length:=by omega
  show dS al .al n c f (au c.ab) K (iter _ m) (r5 c f i,_)=_;have e:(⟨c.ab⟩:af)=c:=rfl
  simp only[dS,cX,kb,uH,yF,e];rw[bH (by omega),aE,dG,rk hi,aw,kA (by omega),Cp (by omega),aw,SC hn rt h0 hf hi,aw,fT (by omega),aw,
   Xw (by rw[xG];omega),aw,Ei (by rw[xG];omega),aw,R8 (by omega)]
  exact Dk rt h0 hf K k (i+1) m (by omega) (by omega)
theorem Bg{c:af}(rt:Rt c)(h0:bS c=0): ∀(m:Nat) (f:List Int),yk c f→c.ab.length - RN c f<m→
  ∃f',M8 c f'∧iter (dT al .al n c (List.replicate 12 0)) m f=some f'
 |0,_,_,h=>absurd h (Nat.not_lt_zero _)
 |m+1,f,hf,h=>by
  have qq:=rt.dL.some.2
  have hs:=Ui qq hf
  have step:iter (dT al .al n c (List.replicate 12 0)) (m+1) f=bif decide (mj c f=f)then some f else iter (dT al .al n c (List.replicate 12 0)) m (mj c f):=by
   show dT al .al n c _ (iter _ m) f=_;simp only[dT,aw];rw[←aav c f];refine(Dk hn rt h0 hf.len _ c.ab.length 0 n (by omega) (by omega)).trans ?_;simp only[sP (BF c f),sP hf.len,sP (xG c f 0),aw]
  rw[step];by_cases e:mj c f=f
  ·exact⟨f,⟨hf,e⟩,by rw[bH e];rfl⟩
  ·obtain⟨f',h1,h2⟩:=Bg rt h0 m (mj c f) hs (by have:=Rz qq hf e;have:=aah c (mj c f);omega);exact⟨f',h1,by rw[bT e];exact h2⟩
theorem Ps{c:af}(rt:Rt c)(h0:bS c=0): ∃f,M8 c f∧gV al .al n c=some f:=by
 have qq:=rt.dL.some.2
 obtain⟨f,h1,h2⟩:=Bg hn rt h0 n (List.replicate 12 0) aoV (by omega);exact⟨f,h1,h2⟩
theorem PN{c:af}(hc:yj c)(h:bS c≠0):ej al .al n c=some ([],bS c):=by
 unfold ej;rw[rq hn hc,aw];simp only[cw,cD];rw[bT h];rfl
end
end Ab
namespace Ab
open Go
set_option maxRecDepth 10000
def sR(so:List (List Bool)):Rel:=fun i k=>(so.getD i []).getD k false
def Hr(n:Nat)(so:List (List Bool)):Prop:=so.length=n∧ ∀r∈so,r.length=n
theorem Hr.row{n:Nat}{so:List (List Bool)}(h:Hr n so){i:Nat}(hi:i<n):so[i]? =some (so.getD i [])∧(so.getD i []).length=n:=by
 have Cb:i<so.length:=by rw[h.1];exact hi
 have e:so[i]? =some (so.getD i []):=uU Cb
 exact⟨e,h.2 _ (jK e)⟩
theorem Hr.gI{n:Nat}{so:List (List Bool)}(h:Hr n so){i:Nat}(hi:i<n):gI so (i:Int)=some (so.getD i []):=by rw[dG];exact(h.row hi).1
theorem Hr.gI2{n:Nat}{so:List (List Bool)}(h:Hr n so){i k:Nat}(hi:i<n)(hk:k<n):Ab.gI (so.getD i []) (k:Int)=some (sR so i k):=by
 rw[dG];exact uU (by rw[(h.row hi).2];exact hk)
section
variable{n:Nat}(hn:100<n)
 include hn
theorem aaU{c:af}(hc:yj c){so:List (List Bool)}(hs:Hr c.ab.length so){o q:aH}(ho:o.args.length≤50)(h1:aL o=true→0≤find c o.name)(h2:aL q=true→0≤find c q.name)(R:Option Bool):
  ((eh al .al n o).bind fun y7=>
  (fN y7 true (eh al .al n q) default).bind fun y8=>
  bif (al.pick (al.pick y7 y8 false) (al.aU o.kind q.kind) false)then
   (dQ al .al n c o.name).bind fun y9=>
   (gI so y9).bind fun Dz=>
   (dQ al .al n c q.name).bind fun uf=>
   (gI Dz uf).bind fun v3=>
   bif (al.not v3)then
   some false
   else
   (j5 al .al n (⟨o.kind,(⟨#[]⟩:ByteArray),o.num,o.args⟩:aH) (⟨q.kind,(⟨#[]⟩:ByteArray),q.num,q.args⟩:aH)).bind fun ue=>
   bif (al.not ue)then
    some false
   else
    R
  else
   (j5 al .al n o q).bind fun Nr=>
   bif (al.not Nr)then
   some false
   else
   R)=bif Bq c (sR so) o q then R else some false:=by
 have Y4:=hc.bl
 have jh: ∀o:aH,eh al .al n o=some (aL o):=fun o=>by
  unfold eh aL;simp only[bZ,cD];cases decide (o.kind=4)<;>rfl
 rw[jh o,aw,GZ (y:=aL q) fun _=>jh q,aw];simp only[bZ,cD,cw];cases Is:aL o with
 |false=>
  simp only[aM];rw[uw hn ho,aw,wH];unfold Bq;rw[Is];cases decide (o.kind=q.kind)<;>cases decide (o.name=q.name)<;>cases decide (o.num=q.num)<;>cases decide (o.args=q.args)<;>rfl
 |true=>
  simp only[aE];by_cases hk:o.kind=q.kind
  ·have hcq:aL q=true:=by rw[←vo hk];exact Is
   have l1:find c o.name<c.ab.length:=gO _ _
   have l2:find c q.name<c.ab.length:=gO _ _
   have g1:=h1 Is
   have g2:=h2 hcq
   obtain⟨i,hi⟩: ∃i:Nat,find c o.name=i:=⟨(find c o.name).toNat,by omega⟩;obtain⟨k,kh⟩: ∃k:Nat,find c q.name=k:=⟨(find c q.name).toNat,by omega⟩;have e9:j5 al .al n (⟨o.kind,(⟨#[]⟩:ByteArray),o.num,o.args⟩:aH) (⟨q.kind,(⟨#[]⟩:ByteArray),q.num,q.args⟩:aH)=some (decide ((⟨o.kind,(⟨#[]⟩:ByteArray),o.num,o.args⟩:aH)=⟨q.kind,(⟨#[]⟩:ByteArray),q.num,q.args⟩)):=uw hn ho
   rw[hcq,bH hk,aE,aE,iC hn (by omega),aw,hi,hs.gI (by omega),aw,iC hn (by omega),aw,kh,hs.gI2 (by omega) (by omega),aw,
    e9,aw,wH]
   unfold Bq;rw[Is,hi,kh,aE,Int.toNat_natCast,Int.toNat_natCast,bH hk];cases sR so i k<;>cases decide (o.num=q.num)<;>cases decide (o.args=q.args)<;>simp
  ·rw[bT hk];have e:(bif bif aL q then false else false then(none:Option Bool)else R)=R:=by cases aL q<;>rfl
   have e2:Bq c (sR so) o q=false:=by unfold Bq;rw[bT hk];rfl
   rw[e2];rw[uw hn ho,aw,wH,bT hk];cases aL q<;>rfl
theorem aaV{c:af}(rt:Rt c){so:List (List Bool)}(hs:Hr c.ab.length so){b d:ai}(hb:b∈c.ab)(hd:d∈c.ab){x y:ah}(hx:x∈b.ae)(hy:y∈d.ae):ux al .al n c so x y=some (mX c (sR so) x y):=by
 have hc:=rt.ck
 have cl: ∀{b:ai} {x:ah},b∈c.ab→x∈b.ae→ ∀o∈x.ops,aL o=true→0≤find c o.name:=fun hb hx o ho h=>by
  obtain⟨i,hi⟩:=List.mem_iff_getElem?.1 ho;exact((rt.op _ hb _ hx i o hi).call h).1
 unfold ux;simp only[aw,bZ,cD,cw,qb];unfold mX;by_cases e1:x.head=y.head
 ·by_cases e2:x.aN=y.aN
  ·by_cases e3:x.result=y.result
   ·by_cases MA:x.ops.length=y.ops.length
    ·have h0:decide (au x.ops=au y.ops)=true:=bH (by show(x.ops.length:Int)=y.ops.length;omega)
     rw[h0,bH e1,bH e2,bH e3];simp only[Bool.not_true,aM,Bool.true_and];have hol:=hc.op b hb x hx
     rw[kL (Bq c (sR so)) MA (some true) (by omega) ?_ ?_ (by omega)]
     ·cases jA (Bq c (sR so)) x.ops y.ops<;>rfl
     ·intro self i o q f1 f2 ho hq f3 f4;simp only[qm,aw,f3,aE,f1,f2,f4];exact aaU hn hc hs (hc.ar b hb x hx o ho) (cl hb hx o ho) (cl hd hy q hq) _
     ·intro self f;simp only[qm,aw,f,aM]
    ·have h0:decide (au x.ops=au y.ops)=false:=bT (by show¬(x.ops.length:Int)=y.ops.length;omega)
     rw[h0,xt MA,bH e1,bH e2,bH e3];rfl
   ·rw[bH e1,bH e2,bT e3];rfl
  ·rw[bH e1,bT e2];rfl
 ·rw[bT e1];rfl
end
end Ab
namespace Ab
open Go
set_option maxRecDepth 10000
def Jr(so:List (List Bool))(i j:Nat):List (List Bool):=so.set i ((so.getD i []).set j false)
theorem Fg(so:List (List Bool))(i j a b:Nat):sR (Jr so i j) a b=(!(decide (a=i)&&decide (b=j))&&sR so a b):=by
 unfold sR Jr;simp only[List.getD_eq_getElem?_getD,List.getElem?_set];by_cases ha:i=a
 ·subst ha;rw[if_pos rfl];by_cases hi:i<so.length
  ·rw[if_pos hi];simp only[Option.getD_some,List.getElem?_set];by_cases hb:j=b
   ·subst hb;by_cases hj:j<(so[i]?.getD []).length
    ·rw[if_pos rfl,if_pos hj];simp
    ·rw[if_pos rfl,if_neg hj];simp
   ·rw[if_neg hb];simp[show¬b=j from fun e=>hb e.symm]
  ·have e:so[i]? =none:=List.getElem?_eq_none (by omega)
   rw[if_neg hi,e];simp
 ·rw[if_neg ha,bT (by omega)];rfl
theorem Hr.set{n:Nat}{so:List (List Bool)}(h:Hr n so){i j:Nat}(hi:i<n):Hr n (Jr so i j):=by
 refine⟨by simp[Jr,h.1],fun r hr=>?_⟩;rcases List.mem_or_eq_of_mem_set hr with h1|h1
 ·exact h.2 r h1
 ·subst h1;simpa using(h.row hi).2
theorem alI{n:Nat}{so:List (List Bool)}(h:Hr n so){i k:Nat}(hs:sR so i k=true):i<n∧k<n:=by
 unfold sR at hs;have hi:i<n:=by
  apply Nat.lt_of_not_le;intro hh;rw[List.getD_eq_getElem?_getD,List.getD_eq_getElem?_getD,List.getElem?_eq_none (l:=so) (by rw[h.1];omega)]at hs;simp at hs
 refine⟨hi,?_⟩;apply Nat.lt_of_not_le;intro hh;rw[List.getD_eq_getElem?_getD,List.getElem?_eq_none (by rw[(h.row hi).2];omega)]at hs;simp at hs
def okP(c:af)(so:List (List Bool))(i j:Nat):Bool:=jA (mX c (sR so)) (bL c i).ae (bL c j).ae
structure xu(c:af)(so:List (List Bool)):Prop where
 NT:Hr c.ab.length so
 ok: ∀i k,sR so i k=true→(bL c i).aG=(bL c k).aG∧(bL c i).ae.length=(bL c k).ae.length
 max: ∀S,Bis c S→ ∀i k,S i k=true→sR so i k=true
abbrev D1:=List (List Bool)×Bool
def yE(c:af)(st:D1)(i j:Nat):D1:=bif sR st.1 i j&& !okP c st.1 i j then(Jr st.1 i j,true)else st
def DX(n:Nat)(so:List (List Bool)):Nat:=(List.range (n*n)).countP fun p=>sR so (p / n) (p % n)
theorem acG(n:Nat)(so:List (List Bool)):DX n so≤n*n:=by
 have:=List.countP_le_length (p:=fun p=>sR so (p / n) (p % n)) (l:=List.range (n*n))
 simpa[DX]using this
structure Pg(c:af)(st st':D1):Prop where
 inv:xu c st.1→xu c st'.1
 on:st.2=true→st'.2=true
 eq:st'.2=false→st'=st
 cnt:DX c.ab.length st'.1≤DX c.ab.length st.1
 lt:xu c st.1→st.2=false→st'.2=true→DX c.ab.length st'.1<DX c.ab.length st.1
theorem Pg.refl(c:af)(st:D1):Pg c st st:=⟨id,id,fun _=>rfl,Nat.le_refl _,fun _ h1 h2=>by rw[h1]at h2;cases h2⟩
theorem Pg.trans{c:af}{a b d:D1}(h:Pg c a b)(g:Pg c b d):Pg c a d:=by
 refine⟨fun h1=>g.inv (h.inv h1),fun h1=>g.on (h.on h1),fun h1=>?_,Nat.le_trans g.cnt h.cnt,fun hi h1 h2=>?_⟩
 ·have e:=g.eq h1
  rw[e]at h1 ⊢;exact h.eq h1
 ·cases hb:b.2 with
  |true=>exact Nat.lt_of_le_of_lt g.cnt (h.lt hi h1 hb)
  |false=>exact Nat.lt_of_lt_of_le (g.lt (h.inv hi) hb h2) h.cnt
theorem FE{c:af}{i j:Nat}(hi:i<c.ab.length)(hj:j<c.ab.length)(st:D1):Pg c st (yE c st i j):=by
 unfold yE;cases hb:(sR st.1 i j&& !okP c st.1 i j)with
 |false=>exact Pg.refl c st
 |true=>
  simp only[aE];simp only[Bool.and_eq_true,Bool.not_eq_true']at hb;have aV:DX c.ab.length (Jr st.1 i j)<DX c.ab.length st.1:=by
   unfold DX;refine xT (fun p _ hp=>?_) ⟨i*c.ab.length+j,?_,?_,?_⟩
   ·rw[Fg,Bool.and_eq_true]at hp;exact hp.2
   ·rw[List.mem_range];have:i*c.ab.length+c.ab.length≤c.ab.length*c.ab.length:=by
     rw[←Nat.succ_mul];exact Nat.mul_le_mul_right _ hi
    omega
   ·rw[Fg];have e1:(i*c.ab.length+j) / c.ab.length=i:=by
     rw[Nat.mul_comm,Nat.mul_add_div (by omega),Nat.div_eq_of_lt hj];rfl
    have e2:(i*c.ab.length+j) % c.ab.length=j:=by
     rw[Nat.mul_comm,Nat.mul_add_mod,Nat.mod_eq_of_lt hj]
    rw[e1,e2];simp
   ·have e1:(i*c.ab.length+j) / c.ab.length=i:=by
     rw[Nat.mul_comm,Nat.mul_add_div (by omega),Nat.div_eq_of_lt hj];rfl
    have e2:(i*c.ab.length+j) % c.ab.length=j:=by
     rw[Nat.mul_comm,Nat.mul_add_mod,Nat.mod_eq_of_lt hj]
    rw[e1,e2];exact hb.1
  refine⟨fun h=>⟨h.NT.set hi,fun a b Bw=>?_,fun S hS a b Bw=>?_⟩,fun _=>rfl,fun h=>(by cases h),Nat.le_of_lt aV,fun _ _ _=>aV⟩
  ·rw[Fg,Bool.and_eq_true]at Bw;exact h.ok a b Bw.2
  ·rw[Fg,h.max S hS a b Bw,Bool.and_true];by_cases e:a=i∧b=j
   ·obtain⟨e1,e2⟩:=e;subst e1;subst e2;obtain⟨_,_,hm⟩:=hS a b Bw;have:=(qW.1 (J1 (fun x y hxy=>h.max S hS x y hxy) hm)).2
    have h2:okP c st.1 a b=true:=this
    rw[hb.2]at h2;cases h2
   ·have:(decide (a=i)&&decide (b=j))=false:=by
     cases h1:(decide (a=i)&&decide (b=j))with
     |false=>rfl
     |true=>simp only[Bool.and_eq_true,decide_eq_true_eq]at h1;exact absurd h1 e
    rw[this];rfl
def vH(c:af)(i:Nat):Nat→Nat→D1→D1
 |0,_,st=>st
 |k+1,j,st=>vH c i k (j+1) (yE c st i j)
def foldI(c:af):Nat→Nat→D1→D1
 |0,_,st=>st
 |k+1,i,st=>foldI c k (i+1) (vH c i c.ab.length 0 st)
theorem wZ{c:af}{i:Nat}(hi:i<c.ab.length): ∀(k j:Nat) (st:D1),j+k≤c.ab.length→Pg c st (vH c i k j st)
 |0,_,st,_=>Pg.refl c st
 |k+1,j,st,h=>(FE hi (by omega) st).trans (wZ hi k (j+1) _ (by omega))
theorem Gf{c:af}: ∀(k i:Nat) (st:D1),i+k≤c.ab.length→Pg c st (foldI c k i st)
 |0,_,st,_=>Pg.refl c st
 |k+1,i,st,h=>(wZ (by omega) c.ab.length 0 st (by omega)).trans (Gf k (i+1) _ (by omega))
theorem Sa{c:af}{st:D1}{i j:Nat}(h:(yE c st i j).2=false):sR st.1 i j=true→okP c st.1 i j=true:=fun hs=>by
 unfold yE at h;cases ho:okP c st.1 i j with
 |true=>rfl
 |false=>rw[hs,ho]at h;cases h
theorem Iv{c:af}{i:Nat}(hi:i<c.ab.length): ∀(k j:Nat) (st:D1),j+k≤c.ab.length→(vH c i k j st).2=false→ ∀b,j≤b→b<j+k→sR st.1 i b=true→okP c st.1 i b=true
 |0,j,st,_,_,b,h1,h2,_=>by omega
 |k+1,j,st,h,h0,b,h1,h2,hs=>by
  have g:=wZ hi k (j+1) (yE c st i j) (by omega)
  have e:(yE c st i j).2=false:=by
   cases hb:(yE c st i j).2 with
   |false=>rfl
   |true=>have:=g.on hb;rw[show vH c i k (j+1) (yE c st i j)=vH c i (k+1) j st from rfl,h0]at this;cases this
  by_cases hbj:b=j
  ·subst hbj;exact Sa e hs
  ·have e2:=(FE hi (show j<c.ab.length by omega) st).eq e
   have KU:(vH c i k (j+1) st).2=false:=by rw[←e2];exact h0
   exact Iv hi k (j+1) st (by omega) KU b (by omega) (by omega) hs
theorem Iw{c:af}: ∀(k i:Nat) (st:D1),i+k≤c.ab.length→(foldI c k i st).2=false→ ∀a b,i≤a→a<i+k→b<c.ab.length→sR st.1 a b=true→okP c st.1 a b=true
 |0,i,st,_,_,a,b,h1,h2,_,_=>by omega
 |k+1,i,st,h,h0,a,b,h1,h2,hb,hs=>by
  have gj:=wZ (c:=c) (i:=i) (by omega) c.ab.length 0 st (by omega)
  have g:=Gf (c:=c) k (i+1) (vH c i c.ab.length 0 st) (by omega)
  have e:(vH c i c.ab.length 0 st).2=false:=by
   cases hb:(vH c i c.ab.length 0 st).2 with
   |false=>rfl
   |true=>have:=g.on hb;rw[show foldI c k (i+1) (vH c i c.ab.length 0 st)=foldI c (k+1) i st from rfl,h0]at this;cases this
  by_cases hai:a=i
  ·subst hai;exact Iv (by omega) c.ab.length 0 st (by omega) e b (by omega) (by omega) hs
  ·have e2:=gj.eq e
   have KU:(foldI c k (i+1) st).2=false:=by rw[←e2];exact h0
   exact Iw k (i+1) st (by omega) KU a b (by omega) (by omega) hb hs
structure acX(c:af)(so:List (List Bool)):Prop where
 inv:xu c so
 bis:Bis c (sR so)
theorem aaa{c:af}{so:List (List Bool)}(h:xu c so)(h0:(foldI c c.ab.length 0 (so,false)).2=false):acX c so:=
 ⟨h,fun i k DN=>by
  obtain⟨hi,hk⟩:=alI h.NT DN;refine⟨hi,hk,qW.2 ⟨(h.ok i k DN).1,Iw c.ab.length 0 (so,false) (by omega) h0 i k (by omega) (by omega) hk DN⟩⟩⟩
theorem Hr.grow{n:Nat}{so:List (List Bool)}(h:Hr n so){i:Nat}(hi:i<n):sj so i=some (so.getD i []):=by
 obtain⟨h1,h2⟩:=h.row hi;exact AW h1 (by intro e;rw[e]at h2;simp at h2;omega)
theorem Hr.gg{n:Nat}{so:List (List Bool)}(h:Hr n so){i j:Nat}(hi:i<n)(hj:j<n):ggM so i j=some (sR so i j):=by
 obtain⟨h1,h2⟩:=h.row hi;exact ai0 h1 (by have:=h.gI2 hi hj;rwa [dG]at this)
theorem Hr.gs{n:Nat}{so:List (List Bool)}(h:Hr n so){i j:Nat}(hi:i<n)(hj:j<n):gsM so i j false=some (Jr so i j):=by
 obtain⟨h1,h2⟩:=h.row hi;exact Xq h1 (by omega)
theorem wY{c:af}{i:Nat}(h:i<c.ab.length):gI c.ab (i:Int)=some (bL c i):=by rw[dG];exact rk h
theorem Ew{c:af}{i:Nat}(h:i<c.ab.length):bL c i∈c.ab:=jK (rk h)
section
variable{N:Nat}(hN:1000<N)
variable{c:af}(rt:Rt c){l2:List (List Bool)}(GX:l2.length=c.ab.length)
 include hN rt GX
theorem cl6{i j:Nat}(hi:i<c.ab.length)(hj:j<c.ab.length)(K:D1→Option (List Int)){so:List (List Bool)}(h:xu c so)(z:Bool): ∀(k a m:Nat),a+k=(bL c i).ae.length→k+1<m→
  iter (cn al .al N c l2 (i:Int) (j:Int) fun(l,_,z)=>K (l,z)) m (so,(a:Int),z)=K (bif sR so i j&& !jA (mX c (sR so)) ((bL c i).ae.drop a) ((bL c j).ae.drop a)then(Jr so i j,true)else(so,z)):=by
 have hn:100<N:=by omega
 have off: ∀(so:List (List Bool)) (_:Hr c.ab.length so) (_:sR so i j=false) (a:Int) (z:Bool) (m:Nat),iter (cn al .al N c l2 (i:Int) (j:Int) fun(l,_,z)=>K (l,z)) (m+1) (so,a,z)=K (so,z):=fun so hs hf a z m=>by
  show cn al .al N c l2 (i:Int) (j:Int) _ (iter _ m) (so,a,z)=_;simp only[cn,OJ];rw[fT (by omega),aw,hs.grow hi,aw,fT (by rw[(hs.row hi).2];exact hj),aw,hs.gg hi hj,aw,hf];rfl
 have hlen:=fun hs=>(h.ok i j hs).2
 have Y4:=rt.ck.bl
 have Xj:=rt.ck.br _ (Ew hi)
 intro k
 induction k with
 |zero=>
  intro a m he hm;obtain⟨m,rfl⟩: ∃m',m=m'+1:=⟨m - 1,by omega⟩;cases hs:sR so i j with
  |false=>rw[off so h.NT hs];rfl
  |true=>
   have hl:=hlen hs
   show cn al .al N c l2 (i:Int) (j:Int) _ (iter _ m) (so,(a:Int),z)=_;simp only[cn,OJ];rw[fT (by omega),aw,h.NT.grow hi,aw,fT (by rw[(h.NT.row hi).2];exact hj),aw,h.NT.gg hi hj,aw,hs,
    GZ (y:=bL c i) fun _=>wY hi,aw]
   simp only[aw,aE,bZ,cX,kb];rw[bT (by omega),aM,List.drop_eq_nil_of_le (by omega),List.drop_eq_nil_of_le (by omega)];rfl
 |succ k ih=>
  intro a m he hm;obtain⟨m,rfl⟩: ∃m',m=m'+1:=⟨m - 1,by omega⟩;cases hs:sR so i j with
  |false=>rw[off so h.NT hs];rfl
  |true=>
   have hl:=hlen hs
   have ha:a<(bL c i).ae.length:=by omega
   have Y6:a<(bL c j).ae.length:=by omega
   show cn al .al N c l2 (i:Int) (j:Int) _ (iter _ m) (so,(a:Int),z)=_;simp only[cn,OJ];rw[fT (by omega),aw,h.NT.grow hi,aw,fT (by rw[(h.NT.row hi).2];exact hj),aw,h.NT.gg hi hj,aw,hs,
    GZ (y:=bL c i) fun _=>wY hi,aw]
   simp only[aw,aE,bZ,cX,kb,cw,uH,yF];rw[bH (by omega),aE,wY hi,aw,dG,fp ha,aw,wY hj,aw,dG,fp Y6,aw,
    AO (by rw[GX,h.NT.1]),aw,aaV hn rt h.NT (Ew hi) (Ew hj) (List.getElem_mem ha) (List.getElem_mem Y6),aw,h.NT.gs hi hj,aw,kA (by omega)]
   have e:jA (mX c (sR so)) ((bL c i).ae.drop a) ((bL c j).ae.drop a)=(mX c (sR so) (bL c i).ae[a] (bL c j).ae[a]&&jA (mX c (sR so)) ((bL c i).ae.drop (a+1)) ((bL c j).ae.drop (a+1))):=by
    rw[List.drop_eq_getElem_cons ha,List.drop_eq_getElem_cons Y6];rfl
   rw[e];cases hm1:mX c (sR so) (bL c i).ae[a] (bL c j).ae[a]with
   |false=>
    obtain⟨m,rfl⟩: ∃m',m=m'+1:=⟨m - 1,by omega⟩;exact off (Jr so i j) (h.NT.set hi) (by rw[Fg];simp) _ _ _
   |true=>
    have:=ih (a+1) m (by omega) (by omega)
    rw[hs]at this;exact this
theorem au6{i j:Nat}(hi:i<c.ab.length)(hj:j<c.ab.length)(K:D1→Option (List Int)){st:D1}(h:xu c st.1):
  iter (cn al .al N c l2 (i:Int) (j:Int) fun(l,_,z)=>K (l,z)) N (st.1,0,st.2)=K (yE c st i j):=by
 have:=rt.ck.br _ (Ew hi)
 exact cl6 hN rt GX hi hj K h st.2 (bL c i).ae.length 0 N (by omega) (by omega)
theorem cl5{i:Nat}(hi:i<c.ab.length)(K:D1→Option (List Int)): ∀(k j m:Nat) (st:D1),xu c st.1→j+k=c.ab.length→k<m→
  iter (dz al .al N c l2 (au c.ab) (i:Int) fun(l,z,_)=>K (l,z)) m (st.1,st.2,(j:Int))=K (vH c i k j st)
 |k,j,0,_,_,_,h=>absurd h (Nat.not_lt_zero _)
 |0,j,m+1,st,h,he,_=>by
  show dz al .al N c l2 (au c.ab) (i:Int) _ (iter _ m) (st.1,st.2,(j:Int))=_;simp only[dz,cX,kb];rw[bT (by omega)];rfl
 |k+1,j,m+1,st,h,he,hm=>by
  have qq:=rt.dL.some.2
  show dz al .al N c l2 (au c.ab) (i:Int) _ (iter _ m) (st.1,st.2,(j:Int))=_;simp only[dz,cX,kb,uH,yF];rw[bH (by omega),aE,kA (by omega)];refine(au6 hN rt GX hi (show j<c.ab.length by omega) (fun st':D1=>iter (dz al .al N c l2 (au c.ab) (i:Int) fun(l,z,_)=>K (l,z)) m (st'.1,st'.2,((j+1:Nat):Int))) h).trans ?_;exact cl5 hi K k (j+1) m _ ((FE hi (by omega) st).inv h) (by omega) (by omega)
theorem cl4(K:D1→Option (List Int)): ∀(k i m:Nat) (st:D1),xu c st.1→i+k=c.ab.length→k<m→
  iter (dA al .al N c l2 (au c.ab) fun(l,z,_)=>K (l,z)) m (st.1,st.2,(i:Int))=K (foldI c k i st)
 |k,i,0,_,_,_,h=>absurd h (Nat.not_lt_zero _)
 |0,i,m+1,st,h,he,_=>by
  show dA al .al N c l2 (au c.ab) _ (iter _ m) (st.1,st.2,(i:Int))=_;simp only[dA,cX,kb];rw[bT (by omega)];rfl
 |k+1,i,m+1,st,h,he,hm=>by
  have qq:=rt.dL.some.2
  show dA al .al N c l2 (au c.ab) _ (iter _ m) (st.1,st.2,(i:Int))=_;simp only[dA,cX,kb,uH,yF];rw[bH (by omega),aE,kA (by omega)];refine(cl5 hN rt GX (show i<c.ab.length by omega) (fun st':D1=>iter (dA al .al N c l2 (au c.ab) fun(l,z,_)=>K (l,z)) m (st'.1,st'.2,((i+1:Nat):Int))) c.ab.length 0 N st h (by omega) (by omega)).trans ?_;exact cl4 K k (i+1) m _ ((wZ (by omega) c.ab.length 0 st (by omega)).inv h) (by omega) (by omega)
theorem cl3(K:List (List Bool)×Bool→Option (List Int)): ∀(m:Nat) (so:List (List Bool)),xu c so→DX c.ab.length so+1<m→
  ∃so',acX c so'∧iter (eK al .al N c l2 (au c.ab) K) m (so,true)=K (so',false)
 |0,_,_,h=>absurd h (Nat.not_lt_zero _)
 |m+1,so,h,hm=>by
  have qq:=rt.dL.some.2
  have step:iter (eK al .al N c l2 (au c.ab) K) (m+1) (so,true)=iter (eK al .al N c l2 (au c.ab) K) m (foldI c c.ab.length 0 (so,false)):=
   cl4 hN rt GX (fun st':D1=>iter (eK al .al N c l2 (au c.ab) K) m st') c.ab.length 0 N (so,false) h (by omega) (by omega)
  have pg:=Gf (c:=c) c.ab.length 0 (so,false) (by omega)
  rw[step];cases hz:(foldI c c.ab.length 0 (so,false)).2 with
  |false=>
   obtain⟨m,rfl⟩: ∃m',m=m'+1:=⟨m - 1,by omega⟩;refine⟨so,aaa h hz,?_⟩;rw[pg.eq hz];rfl
  |true=>
   have aV:=pg.lt h rfl hz
   have aV:DX c.ab.length (foldI c c.ab.length 0 (so,false)).1<DX c.ab.length so:=aV
   obtain⟨so',h1,h2⟩:=cl3 K m (foldI c c.ab.length 0 (so,false)).1 (pg.inv h) (by omega);refine⟨so',h1,?_⟩;rw[←hz]at h2;exact h2
end
end Ab
