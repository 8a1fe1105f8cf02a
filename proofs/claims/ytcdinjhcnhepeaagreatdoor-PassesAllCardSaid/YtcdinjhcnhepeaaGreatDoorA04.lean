/- PassesAll holds of all pairs of cores (no condition): a part of the proof: an abstract interpreter of the code that is proved sound, models of the functions, and laws of these models. -/
import Derived.Test.YtcdinjhcnhepeaaGreatDoorA02
import Derived.Test.YtcdinjhcnhepeaaGreatDoorA03
set_option linter.unusedVariables false
set_option linter.unusedSimpArgs false
set_option linter.unusedSectionVars false
namespace Ab
open Go Go.Proofs.Tryz
set_option maxHeartbeats 100000000
set_option maxRecDepth 100000
noncomputable def c87:Code:=f87.body.get (by kernel_rfl)
def afn:Nat→Tree
 |_=> .done
def ajE:Nat→List Nat
 |0=>[0,1,2]
 |1=>[3,4]
 |_=>[]
noncomputable def auS(r:Nat):FI:=⟨fun _=>c87,5,[.tmp 2],afn,[],r,ajE,none⟩
theorem RH(r:Nat):mT PP im 87 (auS r):= .inr ⟨rfl,_,func87,by kernel_rfl,ntmps87,by kernel_rfl,by kernel_rfl,enters func87 (c:=c87) (by kernel_rfl) (by kernel_rfl)⟩
noncomputable def c91:Code:=f91.body.get (by kernel_rfl)
def afj:Nat→Tree
 |_=> .done
def ajA:Nat→List Nat
 |0=>[0,2]
 |1=>[1,3]
 |_=>[]
noncomputable def auQ(r:Nat):FI:=⟨fun _=>c91,4,[.tmp 2],afj,[],r,ajA,none⟩
theorem wo(r:Nat):mT PP im 91 (auQ r):= .inr ⟨rfl,_,func91,by kernel_rfl,ntmps91,by kernel_rfl,by kernel_rfl,enters func91 (c:=c91) (by kernel_rfl) (by kernel_rfl)⟩
noncomputable def apd:Code:=f122.body.get (by kernel_rfl)
def Z6:Nat→Tree
 |1=>on (rg 0 5) (.al 5 (.al 6 (.one 7 .done) .nil) .nil)
 |_=> .done
def acO:Nat→List Nat
 |0=>[2,6]
 |1=>[0,5]++rg 7 7
 |_=>[]
noncomputable def aoI(r:Nat):FI:=⟨fun _=>apd,14,[.tmp 6],Z6,[],r,acO,none⟩
theorem XZ(r:Nat):mT PP im 122 (aoI r):= .inr ⟨rfl,_,func122,by kernel_rfl,ntmps122,by kernel_rfl,by kernel_rfl,enters func122 (c:=apd) (by kernel_rfl) (by kernel_rfl)⟩
noncomputable def apc:Code:=f128.body.get (by kernel_rfl)
def Z0:Nat→Tree
 |_=> .done
def acI:Nat→List Nat
 |0=>[1,7]
 |2=>[12,13,14]
 |3=>[4,15]
 |5=>[20,21,22]
 |6=>[5,6]++rg 23 6
 |7=>[30]
 |8=>[31]
 |_=>[]
noncomputable def aoH(r:Nat):FI:=⟨fun _=>apc,32,[],Z0,[],r,acI,none⟩
theorem sB(r:Nat):mT PP im 128 (aoH r):= .inr ⟨rfl,_,func128,by kernel_rfl,ntmps128,by kernel_rfl,by kernel_rfl,enters func128 (c:=apc) (by kernel_rfl) (by kernel_rfl)⟩
noncomputable def c55:Code:=f55.body.get (by kernel_rfl)
def JH:Nat→Tree
 |_=> .done
def K4:Nat→List Nat
 |0=>[4]
 |2=>[1]
 |4=>[12,13]
 |5=>[7]++rg 14 10
 |6=>[24]
 |7=>[5,25]
 |_=>[]
noncomputable def c78:Code:=f78.body.get (by kernel_rfl)
def Fs:Nat→Tree
 |_=> .done
def GY:Nat→List Nat
 |0=>[0,1]
 |1=>[2,3]++rg 6 8
 |2=>[5,14]
 |_=>[]
noncomputable def c12:Code:=f12.body.get (by kernel_rfl)
def age:Nat→Tree
 |_=> .done
def akv:Nat→List Nat
 |0=>[0,3]
 |1=>[6,7]
 |2=>[8]
 |3=>[4,10,11]
 |5=>[1,5,12,13,14,15]
 |_=>[]
noncomputable def c58:Code:=f58.body.get (by kernel_rfl)
def afK:Nat→Tree
 |1=>on (rg 0 11) (.al 11 (.al 12 .done .nil) .nil)
 |_=> .done
def aj1:Nat→List Nat
 |0=>[0,4]
 |1=>[1,2,3]++rg 5 12
 |2=>[17,18]
 |_=>[]
noncomputable def auW(r:Nat):FI:=⟨fun _=>c58,19,[.tmp 4],afK,[],r,aj1,none⟩
theorem abY(r:Nat):mT PP im 58 (auW r):= .inr ⟨rfl,_,func58,by kernel_rfl,ntmps58,by kernel_rfl,by kernel_rfl,enters func58 (c:=c58) (by kernel_rfl) (by kernel_rfl)⟩
noncomputable def c60:Code:=f60.body.get (by kernel_rfl)
def afI:Nat→Tree
 |3=>on (rg 0 5) (.al 5 (.al 6 (.one 7 .done) .nil) .nil)
 |_=> .done
def ajZ:Nat→List Nat
 |0=>[2,7]
 |1=>[1,3]++rg 8 9
 |2=>[18]
 |3=>[0,6]++rg 19 7
 |_=>[]
noncomputable def auV(r:Nat):FI:=⟨fun _=>c60,26,[.tmp 7],afI,[],r,ajZ,none⟩
theorem abX(r:Nat):mT PP im 60 (auV r):= .inr ⟨rfl,_,func60,by kernel_rfl,ntmps60,by kernel_rfl,by kernel_rfl,enters func60 (c:=c60) (by kernel_rfl) (by kernel_rfl)⟩
noncomputable def akE:Code:=f111.body.get (by kernel_rfl)
def QS:Nat→Tree
 |_=> .done
def RO:Nat→List Nat
 |0=>[7,8,9]
 |1=>[1,11,12,13]
 |2=>rg 14 6
 |3=>[0,2]++rg 21 5
 |5=>[30,31]
 |6=>[6,32,33,34]
 |7=>[35]
 |_=>[]
noncomputable def Nz(r:Nat):FI:=⟨fun _=>akE,36,[],QS,[],r,RO,none⟩
theorem X0(r:Nat):mT PP im 111 (Nz r):= .inr ⟨rfl,_,func111,by kernel_rfl,ntmps111,by kernel_rfl,by kernel_rfl,enters func111 (c:=akE) (by kernel_rfl) (by kernel_rfl)⟩
noncomputable def c59:Code:=f59.body.get (by kernel_rfl)
def afJ:Nat→Tree
 |_=> .done
def aj0:Nat→List Nat
 |0=>[0,2]
 |1=>[9,10,11,12]
 |3=>[13]
 |4=>[1,14]
 |6=>[19,20]
 |7=>[21]
 |8=>[6,23]
 |10=>[28,29]
 |11=>[8,30,31,32]
 |12=>[33]
 |13=>[34]
 |14=>[3,35]
 |_=>[]
noncomputable def c89:Code:=f89.body.get (by kernel_rfl)
def afl:Nat→Tree
 |_=> .done
def ajC:Nat→List Nat
 |0=>[0,2]
 |1=>[1]++rg 3 8
 |_=>[]
noncomputable def c19:Code:=f19.body.get (by kernel_rfl)
def aga:Nat→Tree
 |_=> .done
def akr:Nat→List Nat
 |0=>[0,3]
 |1=>[5,6]
 |2=>[7]
 |3=>[4,9,10]
 |4=>[1,11,12,13]
 |_=>[]
noncomputable def c70:Code:=f70.body.get (by kernel_rfl)
def UT:Nat→Tree
 |_=> .done
def Yh:Nat→List Nat
 |0=>[0,1]
 |2=>[2,3]++rg 5 5
 |_=>[]
noncomputable def c71:Code:=f71.body.get (by kernel_rfl)
def afz:Nat→Tree
 |2=>on (rg 0 5) (.al 5 (.al 6 (.one 7 .done) .nil) .nil)
 |_=> .done
def ajQ:Nat→List Nat
 |0=>[1,6]
 |1=>[2,4,8,9,10,11]
 |2=>[7]++rg 12 6
 |_=>[]
noncomputable def auU(r:Nat):FI:=⟨fun _=>c71,18,[.cell 5 61,.tmp 6],afz,[],r,ajQ,none⟩
theorem abW(r:Nat):mT PP im 71 (auU r):= .inr ⟨rfl,_,func71,by kernel_rfl,ntmps71,by kernel_rfl,by kernel_rfl,enters func71 (c:=c71) (by kernel_rfl) (by kernel_rfl)⟩
noncomputable def apf:Code:=f115.body.get (by kernel_rfl)
def aad:Nat→Tree
 |_=> .done
def acV:Nat→List Nat
 |0=>[0,4]
 |1=>[1,3,5]
 |2=>[2,6,7,8]
 |_=>[]
noncomputable def aoK(r:Nat):FI:=⟨fun _=>apf,9,[.tmp 4],aad,[],r,acV,none⟩
theorem Ny(r:Nat):mT PP im 115 (aoK r):= .inr ⟨rfl,_,func115,by kernel_rfl,ntmps115,by kernel_rfl,by kernel_rfl,enters func115 (c:=apf) (by kernel_rfl) (by kernel_rfl)⟩
noncomputable def ape:Code:=f116.body.get (by kernel_rfl)
def aac:Nat→Tree
 |4=>on (rg 0 6) (.al 6 (on [7,8,9] (.al 10 (.one 11 .done) .nil)) .nil)
 |5=>on (rg 0 17) .done
 |21=>on (rg 0 5) (.al 5 (.al 6 (.one 7 .done) .nil) .nil)
 |25=>on (rg 0 16) .done
 |28=>on (rg 0 9) .done
 |_=> .done
def acU:Nat→List Nat
 |0=>[2,8]
 |1=>[20,21,22,23]
 |2=>[24]
 |3=>[25]
 |4=>rg 27 10
 |5=>[1,3,4]++rg 37 16
 |7=>[53]
 |9=>[58,59]
 |10=>[15,60,61]
 |11=>[63,64]
 |12=>[65]
 |13=>[11,12,13]++rg 66 14
 |14=>[0,7,9,81,82,83,84]
 |15=>[85,86]
 |16=>[87]
 |18=>[92,93]
 |19=>[19]
 |20=>[94]
 |21=>[18]++rg 96 7
 |22=>[104]
 |23=>[18]++rg 105 5
 |24=>[95,111]
 |25=>[18]++rg 112 15
 |26=>[19]++rg 127 10
 |27=>[137]
 |28=>[10,16]++rg 138 8
 |_=>[]
noncomputable def aoJ(r:Nat):FI:=⟨fun _=>ape,146,[.tmp 8],aac,[],r,acU,none⟩
theorem Nx(r:Nat):mT PP im 116 (aoJ r):= .inr ⟨rfl,_,func116,by kernel_rfl,ntmps116,by kernel_rfl,by kernel_rfl,enters func116 (c:=ape) (by kernel_rfl) (by kernel_rfl)⟩
noncomputable def avS:Code:=f117.body.get (by kernel_rfl)
def aab:Nat→Tree
 |_=> .done
def acT:Nat→List Nat
 |0=>[2]
 |2=>[0]
 |4=>[10,11]
 |5=>[5,12,13,14]
 |6=>[15]
 |7=>[3,16]
 |_=>[]
noncomputable def c72:Code:=f72.body.get (by kernel_rfl)
def afy:Nat→Tree
 |_=> .done
def ajP:Nat→List Nat
 |0=>[0,1]
 |1=>[3,6,7,8,9]
 |2=>[2,5]++rg 10 5
 |_=>[]
noncomputable def avR:Code:=f118.body.get (by kernel_rfl)
def aaa:Nat→Tree
 |_=> .done
def acS:Nat→List Nat
 |0=>[0,3]
 |1=>[1,2,4,5,6,7]
 |_=>[]
noncomputable def c67:Code:=f67.body.get (by kernel_rfl)
def afB:Nat→Tree
 |_=> .done
def ajS:Nat→List Nat
 |0=>[0,2]
 |1=>[1]++rg 3 19
 |_=>[]
noncomputable def c74:Code:=f74.body.get (by kernel_rfl)
def afw:Nat→Tree
 |_=> .done
def ajN:Nat→List Nat
 |0=>[0,2]
 |1=>[1,3,4,5]
 |_=>[]
noncomputable def avQ:Code:=f119.body.get (by kernel_rfl)
def Z9:Nat→Tree
 |_=> .done
def acR:Nat→List Nat
 |0=>[1,4]
 |1=>[0,3,5,6,7,8]
 |_=>[]
noncomputable def avp:Code:=f152.body.get (by kernel_rfl)
def ZE:Nat→Tree
 |_=> .done
def ack:Nat→List Nat
 |0=>[0,3]
 |1=>[1,2,4,5,6,7]
 |_=>[]
noncomputable def avP:Code:=f120.body.get (by kernel_rfl)
def Z8:Nat→Tree
 |_=> .done
def acQ:Nat→List Nat
 |0=>[0,2]
 |1=>[1,3,4,5]
 |_=>[]
noncomputable def c20:Code:=f20.body.get (by kernel_rfl)
def af9:Nat→Tree
 |_=> .done
def akq:Nat→List Nat
 |0=>[0,3]
 |1=>[5,6]
 |2=>[7]
 |3=>[4,9,10]
 |4=>[1,11,12,13]
 |_=>[]
noncomputable def c73:Code:=f73.body.get (by kernel_rfl)
def afx:Nat→Tree
 |4=>on (rg 0 17) (.al 17 (.al 18 .done .nil) .nil)
 |9=> .one 0 (.one 1 (.al 2 (.al 3 (.one 4 .done) .nil) .nil))
 |_=> .done
def ajO:Nat→List Nat
 |0=>[1,6]
 |1=>[2,11,12,13,14]
 |2=>rg 15 5
 |3=>[21]
 |4=>[0,4]++rg 22 17
 |5=>[7,39]
 |7=>[44,45]
 |8=>[46,47,48,49,55,56]
 |9=>[10,64,65,66]
 |10=>[67]
 |11=>[68]
 |_=>[]
noncomputable def auT(r:Nat):FI:=⟨fun _=>c73,69,[.cell 5 61,.tmp 6],afx,[],r,ajO,none⟩
theorem abV(r:Nat):mT PP im 73 (auT r):= .inr ⟨rfl,_,func73,by kernel_rfl,ntmps73,by kernel_rfl,by kernel_rfl,enters func73 (c:=c73) (by kernel_rfl) (by kernel_rfl)⟩
noncomputable def c11:Code:=f11.body.get (by kernel_rfl)
def agf:Nat→Tree
 |_=> .done
def akw:Nat→List Nat
 |0=>[0,3]
 |1=>[6,7]
 |2=>[8]
 |3=>[4,10,11]
 |5=>[1,5,12,13,14,15]
 |_=>[]
noncomputable def c56:Code:=f56.body.get (by kernel_rfl)
def afM:Nat→Tree
 |_=> .done
def aj3:Nat→List Nat
 |0=>[0,2,3]
 |1=>[1,4]
 |2=>[5,6]
 |_=>[]
noncomputable def auY(r:Nat):FI:=⟨fun _=>c56,7,[.tmp 3],afM,[],r,aj3,none⟩
theorem ab0(r:Nat):mT PP im 56 (auY r):= .inr ⟨rfl,_,func56,by kernel_rfl,ntmps56,by kernel_rfl,by kernel_rfl,enters func56 (c:=c56) (by kernel_rfl) (by kernel_rfl)⟩
noncomputable def c57:Code:=f57.body.get (by kernel_rfl)
def afL:Nat→Tree
 |1=>on (rg 0 6++[7,8,9]) (.al 6 (.al 10 (.al 11 (.al 12 (.one 13 .done) .nil) .nil) (.al 11 (.al 10 (.al 12 (.one 13 .done) .nil) .nil) .nil)) (.al 10 (.al 6 (.al 11 (.al 12 (.one 13 .done) .nil) .nil) (.al 11 (.al 6 (.al 12 (.one 13 .done) .nil) .nil) .nil)) (.al 11 (.al 6 (.al 10 (.al 12 (.one 13 .done) .nil) .nil) (.al 10 (.al 6 (.al 12 (.one 13 .done) .nil) .nil) .nil)) .nil)))
 |_=> .done
def aj2:Nat→List Nat
 |0=>[2,7]
 |1=>rg 14 11
 |2=>[25,26]
 |4=>[31,32]
 |5=>rg 33 8
 |6=>[12]++rg 41 10
 |7=>[11,56]
 |8=>[57]
 |9=>[0,6,9,58,59,60,61]
 |10=>[3,8]++rg 62 8
 |11=>[13,70]
 |_=>[]
noncomputable def auX(r:Nat):FI:=⟨fun _=>c57,71,[.tmp 7],afL,[],r,aj2,none⟩
theorem abZ(r:Nat):mT PP im 57 (auX r):= .inr ⟨rfl,_,func57,by kernel_rfl,ntmps57,by kernel_rfl,by kernel_rfl,enters func57 (c:=c57) (by kernel_rfl) (by kernel_rfl)⟩
noncomputable def c10:Code:=f10.body.get (by kernel_rfl)
def agh:Nat→Tree
 |_=> .done
def akx:Nat→List Nat
 |0=>[0,3]
 |1=>[6,7]
 |2=>[8]
 |3=>[4,10,11]
 |5=>[1,5,12,13,14,15]
 |_=>[]
noncomputable def c51:Code:=f51.body.get (by kernel_rfl)
def afQ:Nat→Tree
 |_=> .done
def aj7:Nat→List Nat
 |0=>[0,4]
 |1=>[1,2,3]++rg 5 9
 |2=>[14,15]
 |_=>[]
noncomputable def au1(r:Nat):FI:=⟨fun _=>c51,16,[.tmp 4],afQ,[],r,aj7,none⟩
theorem ab2(r:Nat):mT PP im 51 (au1 r):= .inr ⟨rfl,_,func51,by kernel_rfl,ntmps51,by kernel_rfl,by kernel_rfl,enters func51 (c:=c51) (by kernel_rfl) (by kernel_rfl)⟩
noncomputable def c53:Code:=f53.body.get (by kernel_rfl)
def afO:Nat→Tree
 |3=>on (rg 0 5) (.al 5 (.al 6 (.one 7 .done) .nil) .nil)
 |_=> .done
def aj5:Nat→List Nat
 |0=>[2,7]
 |1=>[1,3,8,9,10,11]
 |3=>[0,6]++rg 13 7
 |_=>[]
noncomputable def au0(r:Nat):FI:=⟨fun _=>c53,20,[.tmp 7],afO,[],r,aj5,none⟩
theorem ab1(r:Nat):mT PP im 53 (au0 r):= .inr ⟨rfl,_,func53,by kernel_rfl,ntmps53,by kernel_rfl,by kernel_rfl,enters func53 (c:=c53) (by kernel_rfl) (by kernel_rfl)⟩
noncomputable def c52:Code:=f52.body.get (by kernel_rfl)
def afP:Nat→Tree
 |9=>on (rg 0 17) (.al 17 .done .nil)
 |_=> .done
def aj6:Nat→List Nat
 |0=>[0,6,7]
 |1=>[1,2,3]++rg 15 7
 |2=>[22]
 |3=>[9,24]
 |4=>[25,26,27,28]
 |5=>[29,30,31,32]
 |6=>[8,33,34]
 |9=>rg 38 7++[48,49,53,54]
 |10=>[11,55,56,57]
 |11=>[12,59]
 |13=>[64,65]
 |14=>[14,66,67,68]
 |15=>[69]
 |16=>[10,70]
 |_=>[]
noncomputable def apg:Code:=f110.body.get (by kernel_rfl)
def aah:Nat→Tree
 |_=> .done
def acZ:Nat→List Nat
 |0=>[0,2]
 |1=>[1,3]
 |_=>[]
noncomputable def aoL(r:Nat):FI:=⟨fun _=>apg,4,[.tmp 2],aah,[],r,acZ,none⟩
theorem X1(r:Nat):mT PP im 110 (aoL r):= .inr ⟨rfl,_,func110,by kernel_rfl,ntmps110,by kernel_rfl,by kernel_rfl,enters func110 (c:=apg) (by kernel_rfl) (by kernel_rfl)⟩
noncomputable def apa:Code:=f150.body.get (by kernel_rfl)
def ZG:Nat→Tree
 |_=> .done
def acn:Nat→List Nat
 |0=>[4,5,6]
 |1=>[7]
 |2=>[9,10]
 |3=>rg 11 7
 |_=>[]
noncomputable def aoF(r:Nat):FI:=⟨fun _=>apa,19,[],ZG,[],r,acn,none⟩
theorem XX(r:Nat):mT PP im 150 (aoF r):= .inr ⟨rfl,_,func150,by kernel_rfl,ntmps150,by kernel_rfl,by kernel_rfl,enters func150 (c:=apa) (by kernel_rfl) (by kernel_rfl)⟩
noncomputable def avW:Code:=f109.body.get (by kernel_rfl)
def aai:Nat→Tree
 |_=> .done
def ac0:Nat→List Nat
 |0=>[0,7]
 |1=>[9,10]
 |2=>[11]
 |3=>[8,13,14]
 |4=>rg 15 23
 |5=>[39]
 |6=>[1,2,3]++rg 40 9
 |_=>[]
noncomputable def c29:Code:=f29.body.get (by kernel_rfl)
def af4:Nat→Tree
 |_=> .done
def akl:Nat→List Nat
 |0=>[0,2,3]
 |1=>[6,7]
 |2=>[8]
 |3=>[4,10]
 |4=>[11,12]
 |5=>[1,5]++rg 13 5
 |_=>[]
noncomputable def c85:Code:=f85.body.get (by kernel_rfl)
def afp:Nat→Tree
 |6=>on [1,2,3,4] (.al 0 (.al 5 (.al 6 (.al 7 (.one 8 (.al 9 .done .nil)) .nil) .nil) (.al 6 (.al 5 (.al 7 (.one 8 (.al 9 .done .nil)) .nil) .nil) .nil)) (.al 5 (.one 0 (.al 6 (.al 7 (.one 8 (.al 9 .done .nil)) .nil) .nil)) (.al 6 (.al 0 (.al 5 (.al 7 (.one 8 (.al 9 .done .nil)) .nil) .nil) (.al 5 (.one 0 (.al 7 (.one 8 (.al 9 .done .nil)) .nil)) .nil)) .nil)))
 |_=> .done
def ajG:Nat→List Nat
 |0=>[0]
 |3=>[7]
 |5=>[12,13,14]
 |6=>[5,6]++rg 15 9
 |7=>[24]
 |8=>[25,26]
 |9=>[3,28]
 |10=>[4,29]
 |_=>[]
noncomputable def avL:Code:=f125.body.get (by kernel_rfl)
def Z3:Nat→Tree
 |2=>on (rg 0 19) (.al 19 (.al 20 (.one 21 (.one 22 .done)) .nil) .nil)
 |_=> .done
def acL:Nat→List Nat
 |0=>[0,6]
 |1=>rg 8 8
 |2=>rg 1 5++[7]++rg 16 22
 |_=>[]
noncomputable def c90:Code:=f90.body.get (by kernel_rfl)
def afk:Nat→Tree
 |_=> .done
def ajB:Nat→List Nat
 |0=>[0,4,5]
 |1=>[8,9]
 |2=>[10]
 |3=>[6,12]
 |4=>[1,2,13,14,15,16]
 |5=>[17]
 |7=>[7,19]
 |_=>[]
noncomputable def avK:Code:=f126.body.get (by kernel_rfl)
def Z2:Nat→Tree
 |_=> .done
def acK:Nat→List Nat
 |0=>[0,1,6]
 |1=>[2,3,4,5]++rg 7 5
 |_=>[]
noncomputable def avJ:Code:=f127.body.get (by kernel_rfl)
def Z1:Nat→Tree
 |_=> .done
def acJ:Nat→List Nat
 |0=>[0,1,2,3,8]
 |1=>[4,5,6,7]++rg 9 27
 |_=>[]
noncomputable def avo:Code:=f153.body.get (by kernel_rfl)
def ZD:Nat→Tree
 |7=>on (rg 0 8) .done
 |_=> .done
def acj:Nat→List Nat
 |0=>[0,1,6]
 |1=>rg 11 19
 |3=>[31,32]
 |4=>[4,5]++rg 34 5
 |5=>[4,8]++rg 39 7
 |6=>[2,5,10]++rg 46 7
 |7=>[3,7,9]++rg 53 7
 |_=>[]
noncomputable def c86:Code:=f86.body.get (by kernel_rfl)
def afo:Nat→Tree
 |_=> .done
def ajF:Nat→List Nat
 |0=>[2]
 |1=>[3]
 |3=>[0,5,6,7]
 |_=>[]
noncomputable def c30:Code:=f30.body.get (by kernel_rfl)
def af3:Nat→Tree
 |_=> .done
def akk:Nat→List Nat
 |0=>[0,3]
 |1=>[10,11]
 |2=>[12]
 |3=>[4,14,15]
 |4=>[16,17]
 |5=>[1,18,19,20]
 |7=>[6,21]
 |9=>[26,27,28]
 |10=>[8,29,30,31,32]
 |11=>[9]++rg 34 6
 |12=>[40]
 |13=>[7,41]
 |_=>[]
noncomputable def c88:Code:=f88.body.get (by kernel_rfl)
def afm:Nat→Tree
 |3=>on (rg 0 9) (.al 9 .done .nil)
 |4=>on (rg 0 5) (.al 5 (.al 6 (.one 7 .done) .nil) .nil)
 |_=> .done
def ajD:Nat→List Nat
 |0=>[2,8]
 |1=>[11]
 |2=>[10]++rg 13 7
 |3=>[3,4,9]++rg 20 9
 |4=>[0,7]++rg 29 7
 |_=>[]
noncomputable def auR(r:Nat):FI:=⟨fun _=>c88,36,[.tmp 8],afm,[],r,ajD,none⟩
theorem abU(r:Nat):mT PP im 88 (auR r):= .inr ⟨rfl,_,func88,by kernel_rfl,ntmps88,by kernel_rfl,by kernel_rfl,enters func88 (c:=c88) (by kernel_rfl) (by kernel_rfl)⟩
noncomputable def c24:Code:=f24.body.get (by kernel_rfl)
def af5:Nat→Tree
 |_=> .done
def akm:Nat→List Nat
 |0=>[0,1,4,5]
 |1=>rg 9 5
 |2=>[14]
 |3=>[7,16]
 |4=>rg 17 5
 |5=>[22]
 |6=>[7,24]
 |7=>[2,3,6,8]++rg 25 10
 |_=>[]
noncomputable def c79:Code:=f79.body.get (by kernel_rfl)
def afs:Nat→Tree
 |_=> .done
def ajJ:Nat→List Nat
 |0=>[0,2,3]
 |1=>[1]++rg 9 5
 |3=>[4]
 |5=>[17]
 |6=>[8,18,19,20]
 |7=>[21]
 |8=>[5,6,22,23]
 |_=>[]
noncomputable def avN:Code:=f123.body.get (by kernel_rfl)
def Z5:Nat→Tree
 |6=> .al 0 (.al 1 (.al 2 .done .nil) .nil) (.al 1 (.al 0 (.al 2 .done .nil) .nil) .nil)
 |_=> .done
def acN:Nat→List Nat
 |0=>[0,3]
 |2=>[7,8]
 |3=>[9]
 |4=>[4,5,11,12]
 |5=>[1,13,14]
 |6=>[6,15,16,17]
 |7=>[4,18]
 |_=>[]
noncomputable def c81:Code:=f81.body.get (by kernel_rfl)
def afr:Nat→Tree
 |_=> .done
def ajI:Nat→List Nat
 |0=>[0,1,4]
 |1=>[2,3]++rg 5 12
 |_=>[]
noncomputable def c14:Code:=f14.body.get (by kernel_rfl)
def agc:Nat→Tree
 |12=>on (rg 0 7++[8]) (.al 7 (.one 9 .done) .nil)
 |24=>on (rg 0 8) (.al 8 (.one 9 .done) .nil)
 |_=> .done
def akt:Nat→List Nat
 |0=>[0,2]
 |1=>[11,12,13]
 |4=>[15,16,17,18]
 |5=>[20,21]
 |6=>rg 22 6
 |7=>[28]
 |8=>[4,30]
 |10=>[31,32,33,34]
 |11=>[36,37]
 |12=>rg 38 9
 |15=>[48,49,50,51]
 |16=>[53,54]
 |18=>rg 55 8
 |19=>[64,65]
 |20=>rg 66 9
 |22=>[75,76,77,78]
 |23=>[80,81]
 |24=>rg 82 9
 |25=>[91]
 |26=>[10,93]
 |27=>[8]++rg 94 6
 |_=>[]
noncomputable def c64:Code:=f64.body.get (by kernel_rfl)
def afE:Nat→Tree
 |_=> .done
def ajV:Nat→List Nat
 |0=>[0,4]
 |2=>[6,7,8,9]
 |3=>[11,12]
 |4=>rg 13 7
 |5=>[5,21]
 |_=>[]
noncomputable def c63:Code:=f63.body.get (by kernel_rfl)
def afF:Nat→Tree
 |34=>on (rg 0 28) .done
 |_=> .done
def ajW:Nat→List Nat
 |0=>[0,2]
 |1=>[10,11,12]
 |4=>[14,15,16,17]
 |5=>[19,20]
 |6=>rg 21 7
 |8=>[29,30]
 |11=>[32,33,34,35]
 |12=>[37,38]
 |13=>rg 39 6
 |15=>[46,47,48]
 |18=>[50,51,52,53]
 |19=>[55,56]
 |20=>rg 57 8
 |23=>[74,75,76,77]
 |24=>[79,80]
 |25=>rg 81 5
 |26=>[7,86,87,88,89,99,100]
 |29=>[110,111,112,113]
 |30=>[115,116]
 |32=>[117,118]
 |33=>[120,121]
 |34=>rg 122 14
 |_=>[]
noncomputable def avV:Code:=f112.body.get (by kernel_rfl)
def aag:Nat→Tree
 |_=> .done
def acY:Nat→List Nat
 |0=>[2]
 |1=>[4,5]
 |4=>[7,8,9]
 |5=>[11,12]
 |6=>rg 13 5
 |_=>[]
noncomputable def avq:Code:=f151.body.get (by kernel_rfl)
def ZF:Nat→Tree
 |_=> .done
def acm:Nat→List Nat
 |0=>[6]
 |1=>[0,1,2]++rg 7 8
 |_=>[]
noncomputable def c62:Code:=f62.body.get (by kernel_rfl)
def afG:Nat→Tree
 |_=> .done
def ajX:Nat→List Nat
 |0=>[6]
 |1=>[0,1,2]++rg 7 8
 |_=>[]
noncomputable def c65:Code:=f65.body.get (by kernel_rfl)
def afD:Nat→Tree
 |20=>on (rg 0 10) .done
 |_=> .done
def ajU:Nat→List Nat
 |0=>[0,1,2,8]
 |1=>rg 14 5
 |2=>[19,20]
 |4=>rg 22 18
 |6=>[5]++rg 41 33
 |8=>rg 75 19
 |11=>[95,96,97,98]
 |12=>[100,101]
 |13=>rg 102 7
 |15=>[110,111]
 |17=>[113,114,115,116]
 |18=>[117]
 |20=>[4,11]++rg 119 9
 |22=>[3,6]++rg 129 5
 |24=>[134,135,136,137]
 |25=>[139,140]
 |26=>rg 141 7
 |_=>[]
noncomputable def avU:Code:=f113.body.get (by kernel_rfl)
def aaf:Nat→Tree
 |_=> .done
def acX:Nat→List Nat
 |0=>[2]
 |3=>[7,8,9]
 |4=>[11,12]
 |5=>rg 13 6
 |7=>rg 19 7
 |8=>[27,28]
 |9=>[29,30,50]
 |10=>[5,51,52,53,54]
 |11=>[3,55]
 |_=>[]
noncomputable def c18:Code:=f18.body.get (by kernel_rfl)
def agb:Nat→Tree
 |6=>on (rg 0 6++[7]) (.al 6 (.one 8 (.al 9 (.al 10 (.al 11 (.al 12 (.al 13 .done .nil) .nil) .nil) (.al 11 (.al 10 (.al 12 (.al 13 .done .nil) .nil) .nil) .nil)) (.al 10 (.al 9 (.al 11 (.al 12 (.al 13 .done .nil) .nil) .nil) (.al 11 (.al 9 (.al 12 (.al 13 .done .nil) .nil) (.al 12 (.one 9 (.al 13 .done .nil)) .nil)) .nil)) (.al 11 (.al 9 (.al 10 (.al 12 (.al 13 .done .nil) .nil) .nil) (.al 10 (.al 9 (.al 12 (.al 13 .done .nil) .nil) (.al 12 (.one 9 (.al 13 .done .nil)) .nil)) .nil)) .nil)))) (.al 10 (.al 6 (.one 8 (.al 9 (.al 11 (.al 12 (.al 13 .done .nil) .nil) .nil) (.al 11 (.al 9 (.al 12 (.al 13 .done .nil) .nil) (.al 12 (.one 9 (.al 13 .done .nil)) .nil)) .nil))) (.al 11 (.al 6 (.one 8 (.al 9 (.al 12 (.al 13 .done .nil) .nil) (.al 12 (.one 9 (.al 13 .done .nil)) .nil))) (.al 12 (on [6,8,9] (.al 13 .done .nil)) .nil)) .nil)) (.al 11 (.al 6 (.one 8 (.al 9 (.al 10 (.al 12 (.al 13 .done .nil) .nil) .nil) (.al 10 (.al 9 (.al 12 (.al 13 .done .nil) .nil) (.al 12 (.one 9 (.al 13 .done .nil)) .nil)) .nil))) (.al 10 (.al 6 (.one 8 (.al 9 (.al 12 (.al 13 .done .nil) .nil) (.al 12 (.one 9 (.al 13 .done .nil)) .nil))) (.al 12 (on [6,8,9] (.al 13 .done .nil)) .nil)) .nil)) .nil)))
 |12=>on (rg 0 10) (.al 10 (.one 11 .done) .nil)
 |_=> .done
def aks:Nat→List Nat
 |0=>[0,1,4]
 |1=>rg 9 6
 |4=>[16,17,18,19]
 |5=>[21,22]
 |6=>rg 23 10
 |7=>rg 33 6++[44,45]
 |10=>[54,55,56,57]
 |11=>[59,60]
 |12=>rg 61 11
 |_=>[]
noncomputable def c69:Code:=f69.body.get (by kernel_rfl)
def afA:Nat→Tree
 |6=>on (rg 0 6++[7]) (.al 6 (.one 8 (.al 9 (.al 10 (.al 11 (.al 12 (.al 13 .done .nil) .nil) .nil) (.al 11 (.al 10 (.al 12 (.al 13 .done .nil) .nil) .nil) .nil)) (.al 10 (.al 9 (.al 11 (.al 12 (.al 13 .done .nil) .nil) .nil) (.al 11 (.al 9 (.al 12 (.al 13 .done .nil) .nil) (.al 12 (.one 9 (.al 13 .done .nil)) .nil)) .nil)) (.al 11 (.al 9 (.al 10 (.al 12 (.al 13 .done .nil) .nil) .nil) (.al 10 (.al 9 (.al 12 (.al 13 .done .nil) .nil) (.al 12 (.one 9 (.al 13 .done .nil)) .nil)) .nil)) .nil)))) (.al 10 (.al 6 (.one 8 (.al 9 (.al 11 (.al 12 (.al 13 .done .nil) .nil) .nil) (.al 11 (.al 9 (.al 12 (.al 13 .done .nil) .nil) (.al 12 (.one 9 (.al 13 .done .nil)) .nil)) .nil))) (.al 11 (.al 6 (.one 8 (.al 9 (.al 12 (.al 13 .done .nil) .nil) (.al 12 (.one 9 (.al 13 .done .nil)) .nil))) (.al 12 (on [6,8,9] (.al 13 .done .nil)) .nil)) .nil)) (.al 11 (.al 6 (.one 8 (.al 9 (.al 10 (.al 12 (.al 13 .done .nil) .nil) .nil) (.al 10 (.al 9 (.al 12 (.al 13 .done .nil) .nil) (.al 12 (.one 9 (.al 13 .done .nil)) .nil)) .nil))) (.al 10 (.al 6 (.one 8 (.al 9 (.al 12 (.al 13 .done .nil) .nil) (.al 12 (.one 9 (.al 13 .done .nil)) .nil))) (.al 12 (on [6,8,9] (.al 13 .done .nil)) .nil)) .nil)) .nil)))
 |12=>on (rg 0 11) .done
 |_=> .done
def ajR:Nat→List Nat
 |0=>[0,1,4]
 |1=>rg 9 27
 |4=>[37,38,39,40]
 |5=>[42,43]
 |6=>rg 44 10
 |7=>rg 54 6++[65,66,72,73]
 |10=>[82,83,84,85]
 |11=>[87,88]
 |12=>rg 89 10
 |_=>[]
noncomputable def c21:Code:=f21.body.get (by kernel_rfl)
def af8:Nat→Tree
 |_=> .done
def akp:Nat→List Nat
 |0=>[0,3]
 |2=>[6]
 |3=>[8,9]
 |4=>rg 10 6
 |5=>[16,17]
 |6=>[1,4,19,20]
 |7=>[5,21]
 |8=>[1,22]
 |_=>[]
noncomputable def c48:Code:=f48.body.get (by kernel_rfl)
def afS:Nat→Tree
 |5=>on (rg 0 12) (.al 12 (.al 13 (.al 14 .done .nil) .nil) (.al 13 (.al 12 (.al 14 .done .nil) .nil) .nil))
 |_=> .done
def aj9:Nat→List Nat
 |0=>[0]
 |3=>[10,11,12,13]
 |4=>[15,16]
 |5=>rg 17 13
 |7=>rg 30 8
 |8=>[39,40]
 |9=>rg 41 9
 |11=>[52]
 |12=>[53,54]
 |13=>[56]
 |14=>[57,58]
 |15=>[60]
 |16=>[61,62,63]
 |17=>[65]
 |18=>[66,67,68]
 |19=>[50,70]
 |20=>[71,72]
 |21=>[9]++rg 73 6
 |22=>[7]++rg 79 6
 |23=>[5,85]
 |_=>[]
noncomputable def av2:Code:=f102.body.get (by kernel_rfl)
def aap:Nat→Tree
 |9=>on (rg 0 8) (.al 8 (.al 9 (.al 10 (.one 11 (.al 12 .done .nil)) .nil) .nil) .nil)
 |_=> .done
def ac7:Nat→List Nat
 |0=>[0]
 |1=>[7,8]
 |2=>rg 9 5
 |3=>[14,15,16,17]
 |5=>[18,19,20,21]
 |6=>[23,24]
 |7=>[25,26,27]
 |8=>rg 29 6
 |9=>rg 35 12
 |10=>[1,5]++rg 47 6
 |11=>[4,53]
 |_=>[]
noncomputable def avI:Code:=f130.body.get (by kernel_rfl)
def ZY:Nat→Tree
 |9=>on (rg 0 29) (.al 29 .done .nil)
 |_=> .done
def acG:Nat→List Nat
 |0=>[0,2]
 |1=>[6,7,8,9]
 |2=>[10,11,12,13]
 |3=>[14]
 |4=>[16,17]
 |5=>rg 18 7++[29,30,38,39]
 |7=>rg 40 8
 |8=>[49,50]
 |9=>rg 51 23++[78,79]
 |10=>[3,80]
 |_=>[]
noncomputable def avH:Code:=f131.body.get (by kernel_rfl)
def ZX:Nat→Tree
 |5=>on (rg 0 10) (.al 10 (.al 11 (.one 12 (.al 13 .done .nil)) .nil) .nil)
 |_=> .done
def acF:Nat→List Nat
 |0=>[0]
 |1=>rg 7 7
 |3=>[14,15,16,17]
 |4=>[19,20]
 |5=>rg 21 13
 |6=>[5,34]
 |_=>[]
noncomputable def avZ:Code:=f105.body.get (by kernel_rfl)
def aam:Nat→Tree
 |_=> .done
def ac4:Nat→List Nat
 |0=>[0]
 |1=>[9,10,11,12]
 |2=>[13,14,15,16]
 |3=>[17]
 |4=>[19,20]
 |6=>rg 21 8
 |7=>[30,31]
 |8=>rg 32 7
 |9=>rg 53 11
 |10=>rg 64 7
 |12=>[71,72,73,74]
 |13=>[76,77]
 |14=>rg 78 5
 |15=>[83,84,85,86]
 |16=>[93]
 |17=>[8]++rg 94 6
 |18=>[6,100]
 |_=>[]
noncomputable def c83:Code:=f83.body.get (by kernel_rfl)
def afq:Nat→Tree
 |_=> .done
def ajH:Nat→List Nat
 |0=>[0,2]
 |1=>[1]++rg 3 8
 |_=>[]
noncomputable def av0:Code:=f104.body.get (by kernel_rfl)
def aan:Nat→Tree
 |10=>on (rg 0 5) (.al 5 (.one 6 (.one 7 (.al 8 (.al 9 .done .nil) .nil))) (.al 8 (.al 5 (.one 6 (.one 7 (.al 9 .done .nil))) .nil) .nil))
 |29=>on (rg 0 8) (.al 8 (.al 9 (.al 10 (.one 11 (.al 12 .done .nil)) .nil) .nil) .nil)
 |31=>on (rg 0 13) (.al 13 .done .nil)
 |33=>on (rg 0 20) (.al 20 .done .nil)
 |_=> .done
def ac5:Nat→List Nat
 |0=>[0,1]
 |1=>rg 18 5
 |2=>[23,24,25,26]
 |4=>[27,28,29,30]
 |5=>[32,33]
 |6=>rg 34 7
 |9=>[41]
 |10=>rg 43 8
 |11=>rg 51 6
 |12=>[57]
 |13=>[13]++rg 59 5
 |16=>[64,65,66,67]
 |17=>[69,70]
 |18=>rg 71 8
 |19=>[87,88]
 |20=>[11,14,89,90,91]
 |21=>rg 106 6
 |22=>[10]++rg 112 6
 |23=>[118,119,120,121]
 |25=>[122,123,124,125]
 |26=>[127,128]
 |27=>rg 129 5
 |28=>rg 135 6
 |29=>rg 141 12
 |30=>[154]
 |31=>rg 155 13
 |32=>[134,169]
 |33=>rg 170 20
 |34=>[12,16]++rg 190 8
 |35=>[4,8]++rg 198 6
 |36=>[7,204]
 |_=>[]
noncomputable def avG:Code:=f132.body.get (by kernel_rfl)
def ZW:Nat→Tree
 |11=>on (rg 0 27) (.al 27 (.one 28 .done) .nil)
 |_=> .done
def acE:Nat→List Nat
 |0=>[0,1,8]
 |1=>[3,11]
 |2=>[4,13]
 |5=>rg 15 16
 |7=>[2,5]++rg 32 7
 |9=>[39,40,41,42]
 |10=>[44,45]
 |11=>rg 46 10++[66,67]
 |12=>[10,75]
 |_=>[]
noncomputable def avT:Code:=f114.body.get (by kernel_rfl)
def aae:Nat→Tree
 |_=> .done
def acW:Nat→List Nat
 |0=>[0,2]
 |2=>[4,5,6,7]
 |3=>[9,10]
 |4=>rg 11 5
 |_=>[]
noncomputable def c66:Code:=f66.body.get (by kernel_rfl)
def afC:Nat→Tree
 |_=> .done
def ajT:Nat→List Nat
 |0=>[0,2]
 |1=>[1]++rg 3 19
 |_=>[]
noncomputable def av1:Code:=f103.body.get (by kernel_rfl)
def aao:Nat→Tree
 |11=>on (rg 0 6) (.al 6 .done .nil)
 |_=> .done
def ac6:Nat→List Nat
 |0=>[0]
 |1=>rg 9 5
 |2=>[14,15,16,17]
 |4=>[18,19,20,21]
 |5=>[23,24]
 |6=>rg 25 7
 |9=>rg 32 6
 |10=>[41,42]
 |11=>rg 43 6
 |12=>[50]
 |13=>[51]
 |14=>[53,54,55]
 |15=>[6]++rg 56 6
 |16=>[7,62,63,64,65]
 |17=>[1,4]++rg 66 6
 |18=>[3,72]
 |_=>[]
noncomputable def avM:Code:=f124.body.get (by kernel_rfl)
def Z4:Nat→Tree
 |6=>on (rg 0 11) .done
 |_=> .done
def acM:Nat→List Nat
 |0=>[0,1,4]
 |1=>rg 6 27
 |4=>[34,35,36,37]
 |5=>[39,40]
 |6=>rg 41 10
 |_=>[]
noncomputable def c22:Code:=f22.body.get (by kernel_rfl)
def af7:Nat→Tree
 |9=>on (rg 0 28) .done
 |11=> .one 0 (.one 2 (.al 1 (.al 3 (on [4,5,6] .done) .nil) .nil))
 |_=> .done
def ako:Nat→List Nat
 |0=>[0,1,4,5]
 |1=>[8,9,10]
 |2=>[11]
 |3=>[6,13]
 |4=>rg 14 6
 |7=>[21,22,23,24]
 |8=>[26,27]
 |9=>rg 28 14
 |11=>[2,3]++rg 56 5
 |_=>[]
noncomputable def c76:Code:=f76.body.get (by kernel_rfl)
def afu:Nat→Tree
 |_=> .done
def ajL:Nat→List Nat
 |0=>[0,2]
 |1=>[1,4,5]
 |2=>[3]++rg 6 14
 |_=>[]
noncomputable def avO:Code:=f121.body.get (by kernel_rfl)
def Z7:Nat→Tree
 |_=> .done
def acP:Nat→List Nat
 |0=>[0]
 |3=>[8,9,10,11]
 |4=>[13,14]
 |6=>rg 15 8
 |7=>[24,25]
 |8=>rg 26 10
 |10=>[36,37,38]
 |11=>[40,41]
 |12=>rg 42 10
 |13=>[3,52]
 |_=>[]
noncomputable def c75:Code:=f75.body.get (by kernel_rfl)
def afv:Nat→Tree
 |_=> .done
def ajM:Nat→List Nat
 |0=>[0,1,4]
 |1=>[2,6,7]
 |2=>[8]
 |3=>[5,10]
 |4=>[3,11,12]
 |_=>[]
end Ab
namespace Ab
open Go Go.Proofs.Tryz
set_option maxHeartbeats 100000000
set_option maxRecDepth 100000
variable{I:Pr}(hI:I=ak){M:Md}(hM:M= .ak){n nx r s p q u rl:Nat}{g:Nat→Option Ob}
 include hI hM
theorem Al{a0:aD}{v:Bool}(h:jz I M n a0=some v):
  cj 38 [(.agg (bu M r a0))] (vb v) g nx:=by
 refine cK func38 c38 r afZ akg [] 13 ntmps38 [.tmp 2] hI fun call hc=>?_;cbv;refine letE h fun n1 dw h=>⟨_,iS hI dw,?_⟩;cbv;refine letE h fun n2 pf h=>⟨_,an hI hM pf,?_⟩;cbv;cbv;cases h;exact fin
 include hI hM
theorem sY{a0:List aD}{v:Int}(h:nS I M n a0=some v):
  cj 94 [(.sl r (M.map (bu M r) a0)),(.fn (.func 38) [])] (vi v) g nx:=by
 refine cK func94 c94 r UR Yf [] 19 ntmps94 [.tmp 4] hI fun call hc=>?_;cbv;refine letE h fun n1 dw h=>⟨_,an hI hM dw,?_⟩;cbv;refine lp h (fun z2=>[(8,(vi z2))]) (fun z2=>[]) fun kS m1 aZ z2 h=>?_;dsimp only[lX]at h;cbv;refine si h (fun h=>?_) fun h=>by cbv;cases h;exact fin
 cbv;refine ah h fun x3 lG h=>⟨_,aq hM lG rfl,?_⟩;cbv;refine ah h fun y4 nI h=>⟨_,_,_,us hc (Al hI hM nI),?_⟩;cbv;refine si h (fun h=>by cbv;cases h;exact fin) fun h=>?_;cbv;exact b8 (aZ _ _ h)
 include hI hM
theorem qS{a0:List aD}{v:Bool}(h:ga I M n a0=some v):
  cj 37 [(.sl r (M.map (bu M r) a0)),(.fn (.func 38) [])] (vb v) g nx:=by
 refine cK func37 c37 r UY Yl [] 9 ntmps37 [.tmp 4] hI fun call hc=>?_;cbv;refine ah h fun y1 c4 h=>⟨_,_,_,us hc (sY hI hM c4),?_⟩;cbv;cbv;cases h;exact fin
 include hI hM
theorem CY{a0:ag}{v:Bool}(h:mu I M n a0=some v):
  cj 36 [(.agg (aB M r a0))] (vb v) g nx:=by
 refine cK func36 c36 r af0 akh [] 18 ntmps36 [.tmp 2] hI fun call hc=>?_;cbv;refine letE h fun n1 dw h=>⟨_,iS hI dw,?_⟩;cbv;refine letE h fun n2 pf h=>⟨_,an hI hM pf,?_⟩;cbv;refine ah h fun y3 D8 h=>⟨_,fun hp=>us hc (qS hI hM (aE D8 hp.1)),?_⟩;cbv;cbv;cases h;exact fin
 include hI hM
theorem qu{a0:List ag}{v:Int}(h:kf I M n a0=some v):
  cj 93 [(.sl r (M.map (aB M r) a0)),(.fn (.func 36) [])] (vi v) g nx:=by
 refine cK func93 c93 r vJ wE [] 19 ntmps93 [.tmp 4] hI fun call hc=>?_;cbv;refine letE h fun n1 dw h=>⟨_,an hI hM dw,?_⟩;cbv;refine lp h (fun z2=>[(8,(vi z2))]) (fun z2=>[]) fun kS m1 aZ z2 h=>?_;dsimp only[jr]at h;cbv;refine si h (fun h=>?_) fun h=>by cbv;cases h;exact fin
 cbv;refine ah h fun x3 lG h=>⟨_,aq hM lG rfl,?_⟩;cbv;refine ah h fun y4 nI h=>⟨_,_,_,us hc (CY hI hM nI),?_⟩;cbv;refine si h (fun h=>by cbv;cases h;exact fin) fun h=>?_;cbv;exact b8 (aZ _ _ h)
 include hI hM
theorem oL{a0:List ag}{v:Bool}(h:eC I M n a0=some v):
  cj 35 [(.sl r (M.map (aB M r) a0)),(.fn (.func 36) [])] (vb v) g nx:=by
 refine cK func35 c35 r zL Ap [] 9 ntmps35 [.tmp 4] hI fun call hc=>?_;cbv;refine ah h fun y1 c4 h=>⟨_,_,_,us hc (qu hI hM c4),?_⟩;cbv;cbv;cases h;exact fin
 include hI hM
theorem GP{a0:aj}{v:Bool}(h:qh I M n a0=some v):
  cj 34 [(.agg (aA M r a0))] (vb v) g nx:=by
 refine cK func34 c34 r af1 aki [] 18 ntmps34 [.tmp 2] hI fun call hc=>?_;cbv;refine letE h fun n1 dw h=>⟨_,iS hI dw,?_⟩;cbv;refine letE h fun n2 pf h=>⟨_,an hI hM pf,?_⟩;cbv;refine ah h fun y3 D8 h=>⟨_,fun hp=>us hc (oL hI hM (aE D8 hp.1)),?_⟩;cbv;cbv;cases h;exact fin
 include hI hM
theorem qO{a0:List aj}{v:Int}(h:lz I M n a0=some v):
  cj 92 [(.sl r (M.map (aA M r) a0)),(.fn (.func 34) [])] (vi v) g nx:=by
 refine cK func92 c92 r JG K3 [] 19 ntmps92 [.tmp 4] hI fun call hc=>?_;cbv;refine letE h fun n1 dw h=>⟨_,an hI hM dw,?_⟩;cbv;refine lp h (fun z2=>[(8,(vi z2))]) (fun z2=>[]) fun kS m1 aZ z2 h=>?_;dsimp only[jV]at h;cbv;refine si h (fun h=>?_) fun h=>by cbv;cases h;exact fin
 cbv;refine ah h fun x3 lG h=>⟨_,aq hM lG rfl,?_⟩;cbv;refine ah h fun y4 nI h=>⟨_,_,_,us hc (GP hI hM nI),?_⟩;cbv;refine si h (fun h=>by cbv;cases h;exact fin) fun h=>?_;cbv;exact b8 (aZ _ _ h)
 include hI hM
theorem o9{a0:List aj}{v:Bool}(h:eQ I M n a0=some v):
  cj 33 [(.sl r (M.map (aA M r) a0)),(.fn (.func 34) [])] (vb v) g nx:=by
 refine cK func33 c33 r af2 akj [] 9 ntmps33 [.tmp 4] hI fun call hc=>?_;cbv;refine ah h fun y1 c4 h=>⟨_,_,_,us hc (qO hI hM c4),?_⟩;cbv;cbv;cases h;exact fin
 include hI hM
theorem BH{a0:ai}{v:Bool}(h:uS I M n a0=some v):
  cj 7 [(.agg (bd M r a0))] (vb v) g nx:=by
 refine cK func7 c7 r alW aoV [] 12 ntmps7 [.tmp 2] hI fun call hc=>?_;cbv;refine letE h fun n1 dw h=>⟨_,an hI hM dw,?_⟩;cbv;refine ah h fun y2 sS h=>⟨_,fun hp=>us hc (o9 hI hM (aE sS hp.1)),?_⟩;cbv;cbv;cases h;exact fin
 include hI hM
theorem GQ{a0:List Int}{v:List Int}(h:tE I M n a0=some v):
  cj 61 [(.sl s (M.map ax a0))] (.sl r (M.map ax v)) g nx:=by
 refine cK func61 c61 r afH ajY [] 6 ntmps61 [.tmp 2] hI fun call hc=>?_;cbv;refine⟨_,bl0 (enc:=ax) hM,?_⟩;cbv;refine ah h fun l1 Kk h=>⟨_,Qw (enc:=ax) hI hM Kk (fun _=>rfl) rfl (fun _=>rfl),?_⟩;cbv;cbv;cases h;exact fin
 include hI hM
theorem wC{a0:ai}{v:ai}(h:rI I M n a0=some v):
  cj 13 [(.agg (bd M s a0))] (.agg (bd M r v)) g nx:=by
 refine cK func13 c13 r agd aku [] 76 ntmps13 [.cell 2 24] hI fun call hc=>?_;cbv;refine letE h fun n1 dw h=>⟨_,an hI hM dw,?_⟩;cbv;refine lp h (fun(l2,z3)=>[(15,(vi z3))]) (fun(l2,z3)=>[(3,.box [(.gs r (.c 3 0) (M.map (aA M r) l2))])]) fun kS m1 aZ st h=>?_;obtain⟨l2,z3⟩:=st;dsimp only[qg]at h;cbv;refine si h (fun h=>?_) fun h=>by cbv;cases h;exact fin
 cbv;refine ah h fun x4 ur h=>⟨_,aq hM ur rfl,?_⟩;cbv;refine letE h fun n5 SS h=>⟨_,an hI hM SS,?_⟩;cbv;refine lp h (fun(l6,z7)=>[(16,.any),(27,(vi z7))]) (fun(l6,z7)=>[(6,.box [(vs x4.name),(vi x4.aI),(.gs r (.c 6 2) (M.map (aB M r) l6))])]) fun Dc m2 dm st h=>?_;obtain⟨l6,z7⟩:=st;dsimp only[nv]at h;cbv;refine si h (fun h=>?_) fun h=>?_
 ·as_aux_lemma=>
   cbv;refine ah h fun x8 Q3 h=>⟨_,aq hM Q3 rfl,?_⟩;cbv;refine letE h fun n9 qn9 h=>⟨_,an hI hM qn9,?_⟩;cbv;refine lp h (fun(l10,H5)=>[(41,(vi H5))]) (fun(l10,H5)=>[(9,.box [(vs x8.head),(vi x8.aM),(.gs r (.c 9 2) (M.map (bu M r) l10)),(vi x8.result)])]) fun QA m3 kI st h=>?_;obtain⟨l10,H5⟩:=st;dsimp only[nu]at h;cbv;refine si h (fun h=>?_) fun h=>?_
   ·cbv;refine ah h fun wO vQ h=>⟨_,aq hM vQ rfl,?_⟩;cbv;refine ah h fun sP xz h=>?_;refine ah h fun Rp asn h=>?_;apply Exists.intro;refine⟨?_,_,rfl,?_⟩
    ·cbv;(repeat' first|exact .inl rfl|exact trivial|(refine⟨_,_,_,us hc (GQ hI hM xz (r:=r)),?_⟩;cbv)|(refine⟨_,cq (enc:=(bu M r)) (x:=(⟨wO.kind,wO.name,wO.num,sP⟩:aD)) hM (ao _) rfl,?_⟩;cbv)|(refine⟨_,ay (enc:=(bu M r)) hI hM asn (fun _=>rfl) rfl (fun _=>rfl),?_⟩;cbv)|apply And.intro);all_goals exact bw
    cbv;exact b8 (kI _ _ h)
   cbv;refine⟨_,cq (enc:=(aB M r)) (x:=(⟨x8.head,x8.aM,l10,x8.result⟩:ag)) hM (ao _) rfl,?_⟩;cbv;refine ah h fun ua Po h=>⟨_,ay (enc:=(aB M r)) hI hM Po (fun _=>rfl) rfl (fun _=>rfl),?_⟩;cbv;exact b8 (dm _ _ h)
 cbv;refine⟨_,cq (enc:=(aA M r)) (x:=(⟨x4.name,x4.aI,l6⟩:aj)) hM (ao _) rfl,?_⟩;cbv;refine ah h fun PO Pn h=>⟨_,ay (enc:=(aA M r)) hI hM Pn (fun _=>rfl) rfl (fun _=>rfl),?_⟩;cbv;exact b8 (aZ _ _ h)
 include hI hM
theorem sJ{a0:ai}{v:List Int}(h:nA I M n a0=some v):
  cj 99 [(.agg (bd M r a0))] (.ar 6 1 (M.map ax v)) g nx:=by
 refine Aq func99 c99 r aff ajw [] 24 ntmps99 [.cell 2 122] hI (bF.cons (XW r) (bF.cons (XY r) (vK PP im))) 8 fun call hc=>?_;cbv;refine letE h fun l1 Kk h=>⟨_,⟨rfl,eR (enc:=ax) hI hM Kk rfl⟩,?_⟩;cbv;refine letE h fun l2 Ea h=>⟨_,⟨rfl,eR (enc:=ax) hI hM Ea rfl⟩,?_⟩;cbv;intro l;cbv;refine letE h fun n3 qn3 h=>⟨_,an hI hM qn3,?_⟩;cbv;refine lp h (fun(l4,z5)=>[(12,(vi z5))]) (fun(l4,z5)=>[(3,.arr 1 (M.map ax l4))]) fun kS m1 aZ st h=>?_;obtain⟨l4,z5⟩:=st;dsimp only[mC]at h;cbv;refine si h (fun h=>?_) fun h=>?_
 ·as_aux_lemma=>
   cbv;refine ah h fun x6 ER h=>⟨_,aq hM ER rfl,?_⟩;cbv;refine letE h fun n7 qn7 h=>⟨_,an hI hM qn7,?_⟩;cbv;refine lp h (fun(l8,z9)=>[(13,.any),(19,(vi z9))]) (fun(l8,z9)=>[(3,.arr 1 (M.map ax l8))]) fun Dc m2 dm st h=>?_;obtain⟨l8,z9⟩:=st;dsimp only[jN]at h;cbv;refine si h (fun h=>?_) fun h=>?_
   ·as_aux_lemma=>
     cbv;refine ah h fun vE xB h=>⟨_,aq hM xB rfl,?_⟩;cbv;refine letE h fun xa zS h=>⟨_,an hI hM zS,?_⟩;cbv;refine lp h (fun(ia,pa)=>[(26,(vi pa))]) (fun(ia,pa)=>[(3,.arr 1 (M.map ax ia))]) fun QA m3 kI st h=>?_;obtain⟨ia,pa⟩:=st;dsimp only[jM]at h;cbv;refine si h (fun h=>?_) fun h=>?_
     ·as_aux_lemma=>
       cbv;refine ah h fun wN FT h=>⟨_,aq hM FT rfl,?_⟩;cbv;(try(refine⟨⟨rfl,rfl,rfl⟩,?_⟩;cbv));(try(refine⟨rfl,?_⟩;cbv));refine si h (fun h=>?_) fun h=>?_
       ·cbv;refine ah h fun Y8 Km h=>?_
        (first|refine⟨_,⟨rfl,rfl,aL hI Km⟩,?_⟩|refine⟨_,aL hI Km,?_⟩)
        cbv;refine ah h fun UB Mj h=>⟨_,_,rfl,bj hM Mj,rfl,?_⟩;cbv
        (first|refine⟨_,⟨rfl,rfl,aL hI Km⟩,?_⟩|refine⟨_,aL hI Km,?_⟩)
        cbv;refine ah h fun ua Po h=>⟨_,dV hI hM Mj Po (by decide) rfl rfl,?_⟩;cbv;(try(refine⟨rfl,?_⟩;cbv));refine nR hI ?_;cbv;exact b8 (kI _ _ h)
       cbv;refine ah h fun Xg Eb h=>?_
       (first|refine⟨_,⟨rfl,rfl,aL hI Eb⟩,?_⟩|refine⟨_,aL hI Eb,?_⟩)
       cbv;refine ah h fun LL AW h=>⟨_,_,rfl,bj hM AW,rfl,?_⟩;cbv
       (first|refine⟨_,⟨rfl,rfl,aL hI Eb⟩,?_⟩|refine⟨_,aL hI Eb,?_⟩)
       cbv;refine ah h fun PO Pn h=>⟨_,dV hI hM AW Pn (by decide) rfl rfl,?_⟩;cbv;(try(refine⟨rfl,?_⟩;cbv));refine nR hI ?_;cbv;exact b8 (kI _ _ h)
     cbv;exact b8 (dm _ _ h)
   cbv;exact b8 (aZ _ _ h)
 cbv;try(refine⟨rfl,?_⟩;cbv)
 refine ah h fun u27 ag7 h=>?_
 (first|refine⟨⟨rfl,aQ hI hM ag7,rfl⟩,?_⟩|refine⟨⟨aQ hI hM ag7,trivial⟩,?_⟩|refine⟨aQ hI hM ag7,?_⟩)
 cbv;refine ah h fun u28 amw h=>?_
 (first|refine⟨⟨rfl,rfl,rfl,aQ hI hM amw,rfl,(by have hq:=cg (enc:=ax) hM (fun _=>rfl) l4;rw[cR.eq_def]at hq;exact hq)⟩,?_⟩|refine⟨⟨aQ hI hM amw,(by have hq:=cg (enc:=ax) hM (fun _=>rfl) l4;rw[cR.eq_def]at hq;exact hq)⟩,?_⟩)
 cbv;refine ah h fun u29 arZ h=>?_;obtain rfl:=o5 h;cbv;all_goals(repeat' apply And.intro)
 all_goals first|trivial|rfl|exact(aK hM)|exact aQ hI hM arZ
 include hI hM
theorem dQ{a0:List Int}{a1:List Int}{v:Bool}(h:dZ I M n a0 a1=some v):
  cj 47 [(.sl r (M.map ax a0)),(.sl r (M.map ax a1))] (vb v) g nx:=by
 refine cK func47 c47 r afT aka [] 26 ntmps47 [.tmp 4] hI fun call hc=>?_;cbv;refine letE h fun n1 dw h=>⟨_,an hI hM dw,?_⟩;cbv;refine letE h fun n2 pf h=>⟨_,an hI hM pf,?_⟩;cbv;refine si h (fun h=>by cbv;cases h;exact fin) fun h=>?_;cbv;refine⟨_,an hI hM dw,?_⟩;cbv;refine lp h (fun z3=>[(13,(vi z3))]) (fun z3=>[]) fun kS m1 aZ z3 h=>?_;dsimp only[iR]at h;cbv;refine si h (fun h=>?_) fun h=>by cbv;cases h;exact fin
 cbv;refine ah h fun x4 ur h=>?_;refine ah h fun x5 sa h=>?_;apply Exists.intro;refine⟨?_,_,rfl,?_⟩
 ·cbv;repeat' first|exact .inl rfl|exact trivial|(refine⟨_,aq hM ur rfl,?_⟩;cbv)|(refine⟨_,aq hM sa rfl,?_⟩;cbv)|apply And.intro
  all_goals exact bw
 cbv;refine si h (fun h=>by cbv;cases h;exact fin) fun h=>?_;cbv;exact b8 (aZ _ _ h)
 include hI hM
theorem GS{a0:aD}{a1:aD}{v:Bool}(h:tN I M n a0 a1=some v):
  cj 96 [(.agg (bu M r a0)),(.agg (bu M r a1))] (vb v) g nx:=by
 refine cK func96 c96 r afh ajy [] 31 ntmps96 [.tmp 4] hI fun call hc=>?_;cbv;refine ah h fun y1 c4 h=>⟨_,fun hp=>us hc (dQ hI hM (aE c4 hp.1)),?_⟩;cbv;cbv;cases h;exact fin
 include hI hM
theorem s7{a0:List aD}{a1:List aD}{v:Bool}(h:e8 I M n a0 a1=some v):
  cj 98 [(.sl r (M.map (bu M r) a0)),(.sl r (M.map (bu M r) a1)),(.fn (.func 96) [])] (vb v) g nx:=by
 refine cK func98 c98 r UQ Ye [] 32 ntmps98 [.tmp 6] hI fun call hc=>?_;cbv;refine letE h fun n1 dw h=>⟨_,an hI hM dw,?_⟩;cbv;refine letE h fun n2 pf h=>⟨_,an hI hM pf,?_⟩;cbv;refine si h (fun h=>by cbv;cases h;exact fin) fun h=>?_;cbv;refine⟨_,an hI hM dw,?_⟩;cbv;refine lp h (fun z3=>[(17,(vi z3))]) (fun z3=>[]) fun kS m1 aZ z3 h=>?_;dsimp only[ej]at h;cbv;refine si h (fun h=>?_) fun h=>by cbv;cases h;exact fin
 cbv;refine ah h fun x4 ur h=>⟨_,aq hM ur rfl,?_⟩;cbv;refine ah h fun x5 sa h=>⟨_,aq hM sa rfl,?_⟩;cbv;refine ah h fun y6 yW h=>⟨_,_,_,us hc (GS hI hM yW),?_⟩;cbv;refine si h (fun h=>by cbv;cases h;exact fin) fun h=>?_;cbv;exact b8 (aZ _ _ h)
 include hI hM
theorem BL{a0:ag}{a1:ag}{v:Bool}(h:oS I M n a0 a1=some v):
  cj 97 [(.agg (aB M r a0)),(.agg (aB M r a1)),(.aX r [(.fn (.func 96) [])] 0)] (vb v) g nx:=by
 refine cK func97 c97 r afg ajx [] 33 ntmps97 [.tmp 5] hI fun call hc=>?_;cbv;refine ah h fun y1 c4 h=>⟨_,fun hp=>us hc (s7 hI hM (aE c4 hp.1)),?_⟩;cbv;cbv;cases h;exact fin
 include hI hM
theorem qw{a0:List ag}{a1:List ag}{v:Bool}(h:dC I M n a0 a1=some v):
  cj 101 [(.sl r (M.map (aB M r) a0)),(.sl r (M.map (aB M r) a1)),(.fn (.func 97) [(.aX r [(.fn (.func 96) [])] 0)])] (vb v) g nx:=by
 refine cK func101 api r QT RP [] 32 ntmps101 [.tmp 6] hI fun call hc=>?_;cbv;refine letE h fun n1 dw h=>⟨_,an hI hM dw,?_⟩;cbv;refine letE h fun n2 pf h=>⟨_,an hI hM pf,?_⟩;cbv;refine si h (fun h=>by cbv;cases h;exact fin) fun h=>?_;cbv;refine⟨_,an hI hM dw,?_⟩;cbv;refine lp h (fun z3=>[(17,(vi z3))]) (fun z3=>[]) fun kS m1 aZ z3 h=>?_;dsimp only[dg]at h;cbv;refine si h (fun h=>?_) fun h=>by cbv;cases h;exact fin
 cbv;refine ah h fun x4 ur h=>⟨_,aq hM ur rfl,?_⟩;cbv;refine ah h fun x5 sa h=>⟨_,aq hM sa rfl,?_⟩;cbv;refine ah h fun y6 yW h=>⟨_,_,_,us hc (BL hI hM yW),?_⟩;cbv;refine si h (fun h=>by cbv;cases h;exact fin) fun h=>?_;cbv;exact b8 (aZ _ _ h)
 include hI hM
theorem BK{a0:aj}{a1:aj}{v:Bool}(h:oR I M n a0 a1=some v):
  cj 100 [(.agg (aA M r a0)),(.agg (aA M r a1)),(.aX r [(.fn (.func 97) [(.aX r [(.fn (.func 96) [])] 0)])] 0)] (vb v) g nx:=by
 refine cK func100 av3 r aaq ac8 [] 26 ntmps100 [.tmp 5] hI fun call hc=>?_;cbv;refine ah h fun y1 c4 h=>⟨_,fun hp=>us hc (qw hI hM (aE c4 hp.1)),?_⟩;cbv;cbv;cases h;exact fin
 include hI hM
theorem qQ{a0:List aj}{a1:List aj}{v:Bool}(h:dY I M n a0 a1=some v):
  cj 80 [(.sl r (M.map (aA M r) a0)),(.sl r (M.map (aA M r) a1)),(.fn (.func 100) [(.aX r [(.fn (.func 97) [(.aX r [(.fn (.func 96) [])] 0)])] 0)])] (vb v) g nx:=by
 refine cK func80 c80 r US Yg [] 32 ntmps80 [.tmp 6] hI fun call hc=>?_;cbv;refine letE h fun n1 dw h=>⟨_,an hI hM dw,?_⟩;cbv;refine letE h fun n2 pf h=>⟨_,an hI hM pf,?_⟩;cbv;refine si h (fun h=>by cbv;cases h;exact fin) fun h=>?_;cbv;refine⟨_,an hI hM dw,?_⟩;cbv;refine lp h (fun z3=>[(17,(vi z3))]) (fun z3=>[]) fun kS m1 aZ z3 h=>?_;dsimp only[dv]at h;cbv;refine si h (fun h=>?_) fun h=>by cbv;cases h;exact fin
 cbv;refine ah h fun x4 ur h=>⟨_,aq hM ur rfl,?_⟩;cbv;refine ah h fun x5 sa h=>⟨_,aq hM sa rfl,?_⟩;cbv;refine ah h fun y6 yW h=>⟨_,_,_,us hc (BK hI hM yW),?_⟩;cbv;refine si h (fun h=>by cbv;cases h;exact fin) fun h=>?_;cbv;exact b8 (aZ _ _ h)
 include hI hM
theorem dJ{a0:ai}{a1:ai}{v:Bool}(h:ll I M n a0 a1=some v):
  cj 46 [(.agg (bd M r a0)),(.agg (bd M r a1))] (vb v) g nx:=by
 refine cK func46 c46 r afU akb [] 21 ntmps46 [.tmp 4] hI fun call hc=>?_;cbv;refine ah h fun y1 c4 h=>?_;refine ah h fun y2 sS h=>?_;refine ah h fun u3 qu3 h=>?_;refine ah h fun u4 O4 h=>?_;refine letE h fun b5 qb5 h=>?_;refine ah h fun y6 yW h=>?_;apply Exists.intro;refine⟨?_,_,rfl,?_⟩
 ·cbv;repeat' first|exact .inl rfl|exact trivial|(refine⟨_,_,_,us hc (sJ hI hM c4),?_⟩;cbv)|(refine⟨_,_,_,us hc (sJ hI hM sS),?_⟩;cbv)|(refine⟨_,X4 hM qu3 O4 qb5 rfl,?_⟩;cbv)|(refine⟨_,fun hp=>us hc (qQ hI hM (aE yW hp.1)),?_⟩;cbv)|apply And.intro
  all_goals exact bw
 cbv;cases h;exact fin
 include hI hM
theorem bE{a0:ByteArray}{a1:Int}{a2:List ag}{v:aj}(h:cL I M n a0 a1 a2=some v):
  cj 43 [(vs a0),(vi a1),(.sl r (M.map (aB M r) a2))] (.agg (aA M r v)) g nx:=have _:=hM;by
 refine cK func43 c43 r afX ake [] 11 ntmps43 [.cell 6 57] hI fun call hc=>?_;cbv;cases h;exact fin
 include hI hM
theorem gV{a0:List aj}{v:ai}(h:sx I M n a0=some v):
  cj 42 [(.sl r (M.map (aA M r) a0))] (.agg (bd M r v)) g nx:=have _:=hM;by
 refine cK func42 c42 r UW Yj [] 5 ntmps42 [.cell 2 24] hI fun call hc=>?_;cbv;cases h;exact fin
 include hI hM
theorem aU{a0:Int}{a1:ByteArray}{a2:Int}{a3:List Int}{v:aD}(h:bY I M n a0 a1 a2 a3=some v):
  cj 45 [(vi a0),(vs a1),(vi a2),(.sl r (M.map ax a3))] (.agg (bu M r v)) g nx:=have _:=hM;by
 refine cK func45 c45 r afV akc [] 14 ntmps45 [.cell 8 64] hI fun call hc=>?_;cbv;cases h;exact fin
 include hI hM
theorem NB{a0:ByteArray}{a1:Int}{a2:Int}{a3:List aD}{v:ag}(h:MY I M n a0 a1 a2 a3=some v):
  cj 95 [(vs a0),(vi a1),(vi a2),(.sl r (M.map (bu M r) a3))] (.agg (aB M r v)) g nx:=have _:=hM;by
 refine cK func95 c95 r afi ajz [] 14 ntmps95 [.cell 8 61] hI fun call hc=>?_;cbv;cases h;exact fin
 include hI hM
theorem bT{a0:Int}{a1:List aD}{v:List ag}(h:dH I M n a0 a1=some v):
  cj 44 [(vi a0),(.sl r (M.map (bu M r) a1))] (.sl r (M.map (aB M r) v)) g nx:=by
 refine cK func44 c44 r afW akd [] 9 ntmps44 [.tmp 4] hI fun call hc=>?_;cbv;refine⟨_,cq (enc:=(aB M r)) (x:=(⟨⟨#[]⟩,0,a1,a0⟩:ag)) hM (ao _) rfl,?_⟩;cbv;cbv;cases h;exact fin
 include hI hM
theorem ui{v:ai}(h:Ag I M n=some v):
  cj 40 [] (.agg (bd M r v)) g nx:=by
 refine cK func40 c40 r afY akf [] 16 ntmps40 [.cell 0 24] hI fun call hc=>?_;cbv;refine ah h fun y1 c4 h=>?_
 (refine⟨_,_,_,us hc ((aU (r:=r) hI hM c4).wk ?_),?_⟩;next=>exact⟨aF _,aF _,aF _,(aK hM),trivial⟩)
 cbv;refine⟨_,cq (enc:=(bu M r)) (x:=y1) hM (ao _) rfl,?_⟩;cbv;refine ah h fun y2 sS h=>⟨_,_,_,us hc (NB hI hM sS),?_⟩;cbv;refine⟨_,cq (enc:=(aB M r)) (x:=y2) hM (ao _) rfl,?_⟩;cbv;refine ah h fun y3 D8 h=>⟨_,_,_,us hc (bE hI hM D8),?_⟩;cbv;refine ah h fun y4 nI h=>?_
 (refine⟨_,_,_,us hc ((aU (r:=r) hI hM nI).wk ?_),?_⟩;next=>exact⟨aF _,aF _,aF _,(aK hM),trivial⟩)
 cbv;refine⟨_,cq (enc:=ax) (x:=0) hM (ao _) rfl,?_⟩;cbv;refine ah h fun y5 HB h=>⟨_,_,_,us hc (aU hI hM HB),?_⟩;cbv;refine⟨_,cq (enc:=ax) (x:=1) hM (ao _) rfl,?_⟩;cbv;refine ah h fun y6 yW h=>⟨_,_,_,us hc (aU hI hM yW),?_⟩;cbv;refine⟨_,xh (enc:=(bu M r)) (l:=[y4,y5,y6]) hM ⟨⟨(ao _),rfl⟩,⟨(ao _),rfl⟩,⟨(ao _),rfl⟩,trivial⟩,?_⟩;cbv;refine ah h fun y7 HA h=>⟨_,_,_,us hc (bT hI hM HA),?_⟩;cbv;refine ah h fun y8 OT h=>⟨_,_,_,us hc (bE hI hM OT),?_⟩;cbv;refine⟨_,xh (enc:=(aA M r)) (l:=[y3,y8]) hM ⟨⟨(ao _),rfl⟩,⟨(ao _),rfl⟩,trivial⟩,?_⟩;cbv;refine ah h fun y9 Mh h=>⟨_,_,_,us hc (gV hI hM Mh),?_⟩;cbv;cbv;cases h;exact fin
 include hI hM
theorem lj{v:ai}(h:rH I M n=some v):
  cj 39 [] (.agg (bd M r v)) g nx:=by
 refine cK func39 c39 r UX Yk [] 23 ntmps39 [.cell 0 24] hI fun call hc=>?_;cbv;refine ah h fun y1 c4 h=>?_
 (refine⟨_,_,_,us hc ((aU (r:=r) hI hM c4).wk ?_),?_⟩;next=>exact⟨aF _,aF _,aF _,(aK hM),trivial⟩)
 cbv;refine ah h fun y2 sS h=>?_
 (refine⟨_,_,_,us hc ((aU (r:=r) hI hM sS).wk ?_),?_⟩;next=>exact⟨aF _,aF _,aF _,(aK hM),trivial⟩)
 cbv;refine⟨_,xh (enc:=ax) (l:=[0,1]) hM ⟨⟨(ao _),rfl⟩,⟨(ao _),rfl⟩,trivial⟩,?_⟩;cbv;refine ah h fun y3 D8 h=>⟨_,_,_,us hc (aU hI hM D8),?_⟩;cbv;refine⟨_,xh (enc:=(bu M r)) (l:=[y1,y2,y3]) hM ⟨⟨(ao _),rfl⟩,⟨(ao _),rfl⟩,⟨(ao _),rfl⟩,trivial⟩,?_⟩;cbv;refine ah h fun y4 nI h=>⟨_,_,_,us hc (bT hI hM nI),?_⟩;cbv;refine ah h fun y5 HB h=>⟨_,_,_,us hc (bE hI hM HB),?_⟩;cbv;refine ah h fun y6 yW h=>?_
 (refine⟨_,_,_,us hc ((aU (r:=r) hI hM yW).wk ?_),?_⟩;next=>exact⟨aF _,aF _,aF _,(aK hM),trivial⟩)
 cbv;refine⟨_,cq (enc:=(bu M r)) (x:=y6) hM (ao _) rfl,?_⟩;cbv;refine ah h fun y7 HA h=>⟨_,_,_,us hc (bT hI hM HA),?_⟩;cbv;refine ah h fun y8 OT h=>⟨_,_,_,us hc (bE hI hM OT),?_⟩;cbv;refine ah h fun y9 Mh h=>?_
 (refine⟨_,_,_,us hc ((aU (r:=r) hI hM Mh).wk ?_),?_⟩;next=>exact⟨aF _,aF _,aF _,(aK hM),trivial⟩)
 cbv;refine⟨_,cq (enc:=ax) (x:=0) hM (ao _) rfl,?_⟩;cbv;refine ah h fun wY tV h=>⟨_,_,_,us hc (aU hI hM tV),?_⟩;cbv;refine ah h fun wL zQ h=>?_
 (refine⟨_,_,_,us hc ((aU (r:=r) hI hM zQ).wk ?_),?_⟩;next=>exact⟨aF _,aF _,aF _,(aK hM),trivial⟩)
 cbv;refine⟨_,xh (enc:=ax) (l:=[1,2]) hM ⟨⟨(ao _),rfl⟩,⟨(ao _),rfl⟩,trivial⟩,?_⟩;cbv;refine ah h fun EI FO h=>⟨_,_,_,us hc (aU hI hM FO),?_⟩;cbv;refine⟨_,xh (enc:=(bu M r)) (l:=[y9,wY,wL,EI]) hM ⟨⟨(ao _),rfl⟩,⟨(ao _),rfl⟩,⟨(ao _),rfl⟩,⟨(ao _),rfl⟩,trivial⟩,?_⟩;cbv;refine ah h fun sP xz h=>⟨_,_,_,us hc (bT hI hM xz),?_⟩;cbv;refine ah h fun Lz J4 h=>⟨_,_,_,us hc (bE hI hM J4),?_⟩;cbv;refine⟨_,xh (enc:=(aA M r)) (l:=[y5,y8,Lz]) hM ⟨⟨(ao _),rfl⟩,⟨(ao _),rfl⟩,⟨(ao _),rfl⟩,trivial⟩,?_⟩;cbv;refine ah h fun H8 J2 h=>⟨_,_,_,us hc (gV hI hM J2),?_⟩;cbv;cbv;cases h;exact fin
end Ab
namespace Ab
open Go
set_option maxHeartbeats 4000000
set_option maxRecDepth 100000
def av8:aj:=⟨⟨#[116,119,111]⟩,0,[⟨⟨#[]⟩,0,[⟨4,fL,0,[]⟩,⟨5,⟨#[105,100]⟩,0,[0]⟩,⟨5,fL,0,[]⟩,⟨3,⟨#[112]⟩,0,[1,2]⟩],3⟩]⟩
def UP:ai:=⟨[Ef fL,⟨⟨#[105,100]⟩,1,[⟨⟨#[]⟩,0,[⟨1,⟨#[]⟩,0,[]⟩],0⟩]⟩,av8]⟩
theorem amK{I:Pr}(hI:I=ak){M:Md}(hM:M= .ak):rH I M 0=some UP:=by subst hI;subst hM;kernel_rfl
theorem amL{I:Pr}(hI:I=ak){M:Md}(hM:M= .ak):rI I M 100 ⟨[Ef fL]⟩=some ⟨[Ef fL]⟩:=by subst hI;subst hM;kernel_rfl
def aaz:Code→Code
 | .seq a _=>a
 |c=>c
def Hy:Code→Code
 | .seq _ b=>b
 |c=>c
noncomputable def k0:Code:=aaz c41
noncomputable def k1:Code:=aaz (Hy c41)
noncomputable def k2:Code:=aaz (Hy (Hy c41))
noncomputable def k3:Code:=aaz (Hy (Hy (Hy c41)))
noncomputable def k4:Code:=Hy (Hy (Hy (Hy c41)))
theorem adg:c41=k0.seq (k1.seq (k2.seq (k3.seq k4))):=by kernel_rfl
def S2(r:Nat)(k:ByteArray):List (List AV):=(ail k).map (bu .ak r)
def Ha(r:Nat)(k:ByteArray):List (List AV):=[[vs ⟨#[]⟩,vi 0,.sl r (S2 r k),vi 2]]
def s3(g:Nat→Option Ob)(nx:Nat):St:={n:=29,t:=[(0,.ptr (.s 0) 0),(1,.ptr (.s 1) 0),(2,.ptr (.s 2) 0)],b:=[(0,.box [.v gQ]),(1,.box [.sl 1000000 (UP.af.map (aA .ak 1000000))]),(2,.box [vs fL,vi 0,.sl 1000001 (Ha 1000001 fL)])],c:=[],g:=g,nx:=nx,up:=[],fl:=true}
def adY(R:St→Prop)(e:Ex)(s:St):Prop:=match e with
 | .normal=>R s
 |_=>False
theorem Zr{I:Pr}(hI:I=ak){M:Md}(hM:M= .ak)(call:qH)(hc:Any PP call)(g:Nat→Option Ob)(nx:Nat):
  rS (o7 {I:=I,L:=L,ρ:=1000000,sh:=[],tree:=JI,call:=call,op:=[4009],dead:=K5,cl:=im,keys:=mv,eqs:=uk} (wQ 42 (XS 1000000) (fun _=>none)) 1 0) (k0.seq (k1.seq k2)) (init 29 [] g nx true) (adY fun s'=>s'=s3 g nx):=by
 obtain⟨wrap,add,sub,mul,aS,bf,rL,seq,cat,beq,not,pick,Ts,imax,fV,Qp,app,CZ,K8,flat,chunk,rep,set,room,within,nat,Ge,nz,nr⟩:=I;obtain⟨map,ln⟩:=M;cbv;refine⟨_,_,_,us hc (lj hI hM (amK hI hM) (r:=1000000)),?_⟩;cbv;refine⟨_,aq hM (x:=Ef fL) rfl rfl,?_⟩;cbv;refine⟨_,cq (enc:=(aA ⟨map,ln⟩ 1000000)) (x:=Ef fL) hM (ao _) rfl,?_⟩;cbv;refine⟨_,_,_,us hc (gV (n:=0) hI hM (a0:=[Ef fL]) (v:=⟨[Ef fL]⟩) rfl),?_⟩;cbv;refine⟨_,_,_,us hc (wC hI hM (amL hI hM) (r:=1000001)),?_⟩;cbv;refine⟨_,aq hM (x:=Ef fL) rfl rfl,?_⟩;cbv;unfold Md.ak at hM;injection hM with e1 e2;subst e1;subst e2;rfl
def s4(g:Nat→Option Ob)(nx:Nat):St:={n:=29,t:=[(0,.ptr (.s 0) 0),(1,.ptr (.s 1) 0),(2,.ptr (.s 2) 0)],b:=[(0,.box [.v gQ]),(1,.box [.sl 1000000 (UP.af.map (aA .ak 1000000))]),(2,.box [vs tF,vi 0,.sl 1000001 (Ha 1000001 tF)])],c:=[],g:=g,nx:=nx,up:=[],fl:=true}
def aaD:AV:= .agg [.sl 1000000 [aA .ak 1000000 (Ef fL),[vs tF,vi 0,.sl 1000001 (Ha 1000001 tF)]]]
theorem alO{I:Pr}(hI:I=ak)(call:qH)(hc:Any PP call)(g:Nat→Option Ob)(nx:Nat):
  rS (o7 {I:=I,L:=L,ρ:=1000000,sh:=[],tree:=JI,call:=call,op:=[4009],dead:=K5,cl:=im,keys:=mv,eqs:=uk} (wQ 42 (XS 1000000) (fun _=>none)) 1 0) k4 (s4 g nx) (post (o7 {I:=I,L:=L,ρ:=1000000,sh:=[],tree:=JI,call:=call,op:=[4009],dead:=K5,cl:=im,keys:=mv,eqs:=uk} (wQ 42 (XS 1000000) (fun _=>none)) 1 0) [.cell 0 24] fun r1 g1 A7=>Lq r1 aaD∧g1=g∧A7=nx):=by
 obtain⟨wrap,add,sub,mul,aS,bf,rL,seq,cat,beq,not,pick,Ts,imax,fV,Qp,app,CZ,K8,flat,chunk,rep,set,room,within,nat,Ge,nz,nr⟩:=I;cbv;apply Exists.intro;refine⟨?_,?_⟩
 next=>
  cbv;refine⟨_,⟨by decide,rfl,rfl⟩,?_⟩;cbv;repeat'(first|exact Or.inl rfl|trivial|(apply And.intro)|(refine⟨_,blL rfl,?_⟩;cbv))
 refine⟨_,rfl,?_⟩;cbv;all_goals(repeat' apply And.intro)
 all_goals first|trivial|rfl
end Ab
namespace Ab
open Go
set_option maxHeartbeats 4000000
set_option maxRecDepth 100000
variable{P:Program}{E E' E0:Env}{w w' w0:World}{a a':Act}{s:St}{C:ey}
theorem arn(ok:Ok P C)(hm:P.follows .mixedOrders=true){x y z d:Code}(hx:cD C.cl C.tree x=true)(hy:cD C.cl C.tree y=true)(hz:cD C.cl C.tree z=true){R:St→Prop}{Q:Exit→Act→World→Prop}(h:bJ E0 E w0 w s a)(hk:rS C (x.seq (y.seq z)) s (adY R))
  (hr: ∀{s':St} {E':Env} {a':Act} {w':World},R s'→bJ E0 E' w0 w' s' a'→d.wpIn (WF none) 0 P Q a' w'):(x.seq (y.seq (z.seq d))).wpIn (WF none) 0 P Q a w:=by
 unfold rS at hk;refine wpIn_seq (wpIn_mono (eI ok hm x none (.inl rfl) hx h hk) fun e a1 w1 hq=>?_);cases e with
 |normal=>
  obtain⟨s1,E1,h1,h2⟩:=hq;dsimp only at h1;unfold rS at h1;refine wpIn_seq (wpIn_mono (eI ok hm y none (.inl rfl) hy h2 h1) fun e a2 w2 hq=>?_);cases e with
  |normal=>
   obtain⟨s2,E2,h3,h4⟩:=hq;refine wpIn_seq (wpIn_mono (eI ok hm z none (.inl rfl) hz h4 h3) fun e a3 w3 hq=>?_);cases e with
   |normal=>obtain⟨s3,E3,h5,h6⟩:=hq;exact hr h5 h6
   |exit k=>obtain⟨_,_,h5,_⟩:=hq;exact h5.elim
   |ret=>obtain⟨_,_,h5,_⟩:=hq;exact h5.elim
   |goto l=>exact hq.elim
   |panic c=>exact hq.elim
   |outgrown=>exact hq.elim
  |exit k=>obtain⟨_,_,h5,_⟩:=hq;exact h5.elim
  |ret=>obtain⟨_,_,h5,_⟩:=hq;exact h5.elim
  |goto l=>exact hq.elim
  |panic c=>exact hq.elim
  |outgrown=>exact hq.elim
 |exit k=>obtain⟨_,_,h5,_⟩:=hq;exact h5.elim
 |ret=>obtain⟨_,_,h5,_⟩:=hq;exact h5.elim
 |goto l=>exact hq.elim
 |panic c=>exact hq.elim
 |outgrown=>exact hq.elim
theorem bJ.agn(h:bJ E0 E w0 w s a)(ef:a'.tmps.size=s.n)(hd:a'.defers=a.defers)(hc:s.c=[])(ht: ∀d x,look d s.t=some x→a'.tmps.getD d undef=a.tmps.getD d undef):bJ E0 E w0 w s a':=
 ⟨h.heap,h.wf,by have:=h.Lv;unfold TY at this ⊢;rw[hd];exact this,h.up,ef,fun d x hl hp=>by rw[ht d x hl];exact h.tm d x hl hp,(fun d q hl=>by rw[hc]at hl;cases hl),h.bx,h.lv,h.gx,h.gl,h.ext,h.zu,h.same,h.gk,h.nl,h.ng,h.lo⟩
theorem Qy{ops:Array Oper}{l:Array Bool}(ef:l.size=ops.size)(aoj: ∀(i:Nat) (o:Oper),ops[i]? =some o→ ∀e∈o.after,e.on<i)(hr:Region.ready .any ops l=[]): ∀i,i<ops.size→l.getD i false=true:=by
 intro i
 induction i using Nat.strongRecOn with
 |_ i ih=>
  intro hi;cases hl:l.getD i false with
  |true=>rfl
  |false=>
   exfalso;have bc:i<l.size:=by omega
   have:i∈Region.ready .any ops l:=mem_ready.2 ⟨by
    simp only[Array.getD_eq_getD_getElem?,Array.getElem?_eq_getElem bc,Option.getD_some]at hl ⊢;exact hl,ops[i],by simp[hi],fun e he _=>ih e.on (aoj i ops[i] (by simp[hi]) e he) (by
     have:=aoj i ops[i] (by simp[hi]) e he
     omega)⟩
   rw[hr]at this;cases this
def aoR(ops:Array Oper):Bool:=(List.range ops.size).all fun i=>match ops[i]? with
 |some o=>o.after.toList.all fun e=>decide (e.on<i)
 |none=>true
theorem ajs{ops:Array Oper}(h:aoR ops=true): ∀(i:Nat) (o:Oper),ops[i]? =some o→ ∀e∈o.after,e.on<i:=fun i o ho e he=>by
 have hi:=(Array.getElem?_eq_some_iff.1 ho).1
 have:=List.all_eq_true.1 h i (List.mem_range.2 hi)
 rw[ho]at this;exact of_decide_eq_true (List.all_eq_true.1 this e (Array.mem_toList_iff.2 he))
def ajv(ops:Array Oper)(i j:Nat):Bool:=match ops[i]? with
 |some o=>o.after.toList.any fun e=>Region.binds .any e&&decide (e.on=j)
 |none=>false
theorem aju{ops:Array Oper}{l:Array Bool}{i j:Nat}(hi:i∈Region.ready .any ops l)(h:ajv ops i j=true):l.getD j false=true:=by
 obtain⟨_,o,ho,hd⟩:=mem_ready.1 hi;unfold ajv at h;rw[ho]at h;obtain⟨e,he,hb⟩:=List.any_eq_true.1 h;simp only[Bool.and_eq_true]at hb;have h2:e.on=j:=of_decide_eq_true hb.2
 rw[←h2];exact hd e (Array.mem_toList_iff.1 he) hb.1
noncomputable def xL:Array Oper:=match k3 with
 | .region _ o _=>o
 |_=> #[]
theorem ann:k3= .region 3 xL true:=by kernel_rfl
theorem L1:xL.size=10:=by kernel_rfl
theorem au7:aoR xL=true:=by kernel_rfl
theorem aoS:((List.range 10).all fun i=>(List.range 10).all fun j=> !oA i j||ajv xL i j)=true:=by kernel_rfl
theorem my{α:Type}{o:Option α}(h:o.isSome=true):o=some (o.get h):=by cases o with
 |none=>cases h
 |some x=>rfl
theorem U3: ∀i,i<10→ ∃o,xL[i]? =some o∧o.guard=none∧o.op=(tu i).1∧o.dst=(tu i).2
 |0,_=>⟨xL[0]?.get (by kernel_rfl),my _,by kernel_rfl,by kernel_rfl,by kernel_rfl⟩
 |1,_=>⟨xL[1]?.get (by kernel_rfl),my _,by kernel_rfl,by kernel_rfl,by kernel_rfl⟩
 |2,_=>⟨xL[2]?.get (by kernel_rfl),my _,by kernel_rfl,by kernel_rfl,by kernel_rfl⟩
 |3,_=>⟨xL[3]?.get (by kernel_rfl),my _,by kernel_rfl,by kernel_rfl,by kernel_rfl⟩
 |4,_=>⟨xL[4]?.get (by kernel_rfl),my _,by kernel_rfl,by kernel_rfl,by kernel_rfl⟩
 |5,_=>⟨xL[5]?.get (by kernel_rfl),my _,by kernel_rfl,by kernel_rfl,by kernel_rfl⟩
 |6,_=>⟨xL[6]?.get (by kernel_rfl),my _,by kernel_rfl,by kernel_rfl,by kernel_rfl⟩
 |7,_=>⟨xL[7]?.get (by kernel_rfl),my _,by kernel_rfl,by kernel_rfl,by kernel_rfl⟩
 |8,_=>⟨xL[8]?.get (by kernel_rfl),my _,by kernel_rfl,by kernel_rfl,by kernel_rfl⟩
 |9,_=>⟨xL[9]?.get (by kernel_rfl),my _,by kernel_rfl,by kernel_rfl,by kernel_rfl⟩
 |n+10,h=>by omega
theorem ab7(l:Array Bool)(i:Nat)(hi:i∈Region.ready .any xL l):i<10∧ ∀j,oA i j=true→l.getD j false=true:=by
 have B8:i<10:=by
  obtain⟨_,o,ho,_⟩:=mem_ready.1 hi;have:=(Array.getElem?_eq_some_iff.1 ho).1
  rw[L1]at this;exact this
 refine⟨B8,fun j hj=>?_⟩;have aud:j<10:=by
  match i,B8,hj with
  |0,_,hj=>simp[oA]at hj
  |1,_,hj=>unfold oA at hj;split at hj<;>first|omega|(simp at hj;omega)|cases hj
  |2,_,hj=>unfold oA at hj;split at hj<;>first|omega|(simp at hj;omega)|cases hj
  |3,_,hj=>unfold oA at hj;split at hj<;>first|omega|(simp at hj;omega)|cases hj
  |4,_,hj=>unfold oA at hj;split at hj<;>first|omega|(simp at hj;omega)|cases hj
  |5,_,hj=>unfold oA at hj;split at hj<;>first|omega|(simp at hj;omega)|cases hj
  |6,_,hj=>unfold oA at hj;split at hj<;>first|omega|(simp at hj;omega)|cases hj
  |7,_,hj=>unfold oA at hj;split at hj<;>first|omega|(simp at hj;omega)|cases hj
  |8,_,hj=>unfold oA at hj;split at hj<;>first|omega|(simp at hj;omega)|cases hj
  |9,_,hj=>unfold oA at hj;split at hj<;>first|omega|(simp at hj;omega)|cases hj
  |n+10,h,_=>omega
 have h1:=List.all_eq_true.1 (List.all_eq_true.1 aoS i (List.mem_range.2 B8)) j (List.mem_range.2 aud)
 rw[hj]at h1;exact aju hi (by simpa using h1)
theorem U6{r:Nat}{xs:List (List AV)}{x:Value}(h:Cz E (.sl r xs) x)(hx:0<xs.length): ∃b o c,x= .slice (some ⟨b,o,none⟩) xs.length c∧E.eo b=r∧ ∀(q:Nat) (a:AV),xs.flatten[q]? =some a→E.aR b (o+q)∧ ∃y,aW E.h b (o+q)=some y∧Cz E a y:=by
 cases h with
 |pd=>simp at hx
 |sl _ _ z b o c u hp hc hm ew Tt hr hii hs hu hqq=>exact⟨b,o,c,rfl,hr,fun q a ha=>⟨hs q a ha,u q,hu q a ha,hqq q a ha⟩⟩
theorem Yr{bb ob nb cb bo oo no co:Nat}(k:YI E E' bo (oo+5) fL)(hb:Cz E (.sl 1000001 (Ha 1000001 fL)) (.slice (some ⟨bb,ob,none⟩) nb cb))(ho:Cz E (.sl 1000001 (S2 1000001 fL)) (.slice (some ⟨bo,oo,none⟩) no co))
  (h2:aW E.h bb (ob+2)=some (.slice (some ⟨bo,oo,none⟩) no co))(xU:aW E'.h bo (oo+5)=some iF):Cz E' (.sl 1000001 (Ha 1000001 tF)) (.slice (some ⟨bb,ob,none⟩) nb cb):=by
 have same: ∀{b o:Nat} {a:AV} {x:Value},aW E.h b o=some x→Cz E a x→Kv (.string fL) a→ ∃y,aW E'.h b o=some y∧Cz E' a y:=fun hx h hn=>⟨_,k.bH hx h hn,h.asK k hn⟩
 have aiM: ∀k:ByteArray,k≠fL→Value.string k≠ .string fL:=fun k h e=>h (by injection e)
 have HL: ∀y:Int,(Value.int .i64 y)≠ .string fL:=fun y e=>by cases e
 have lf:Cz E' (.sl 1000001 (S2 1000001 tF)) (.slice (some ⟨bo,oo,none⟩) no co):=by
  refine ho.slN (z:=4) (by decide) rfl (fun l hl=>?_) (fun l hl=>?_) (by decide) k.aR k.eo (fun q a' ha=>bD (cs:=(S2 1000001 tF).flatten) rfl q a' ha) fun q a' a x h1 h2 h3 h4=>?_
  ·obtain⟨y,_,rfl⟩:=List.mem_map.1 hl;rfl
  ·obtain⟨y,_,rfl⟩:=List.mem_map.1 hl;rfl
  ·have HK: ∀(xs:List (List AV)),MI (.string fL) xs→Kv (.string fL) (.sl 1000001 xs):=fun xs h=>by simp only[Kv];exact h
   have hv: ∀y:Value,y≠ .string fL→Kv (.string fL) (.v y):=fun y h=>by simp only[Kv];exact h
   match q,h1,h2 with
   |0,h1,h2=>cases h1;cases h2;exact same h3 h4 (hv _ (HL _))
   |1,h1,h2=>cases h1;cases h2;exact same h3 h4 (hv _ (aiM _ (by decide)))
   |2,h1,h2=>cases h1;cases h2;exact same h3 h4 (hv _ (HL _))
   |3,h1,h2=>cases h1;cases h2;exact same h3 h4 (HK _ (by simp[MI,Md.ak]))
   |4,h1,h2=>cases h1;cases h2;exact same h3 h4 (hv _ (HL _))
   |5,h1,h2=>cases h1;exact⟨_,xU,.v _⟩
   |6,h1,h2=>cases h1;cases h2;exact same h3 h4 (hv _ (HL _))
   |7,h1,h2=>cases h1;cases h2;exact same h3 h4 (HK _ (by simp[MI,Md.ak]))
   |8,h1,h2=>cases h1;cases h2;exact same h3 h4 (hv _ (HL _))
   |9,h1,h2=>cases h1;cases h2;exact same h3 h4 (hv _ (aiM _ (by decide)))
   |10,h1,h2=>cases h1;cases h2;exact same h3 h4 (hv _ (HL _))
   |11,h1,h2=>cases h1;cases h2;exact same h3 h4 (HK _ (by simp[MI,noL,Kv,ax,vi,Md.ak]))
   |n+12,h1,h2=>cases h1
 refine hb.slN (z:=4) (by decide) rfl (fun l hl=>?_) (fun l hl=>?_) (by decide) k.aR k.eo (fun q a' ha=>bD (cs:=(Ha 1000001 tF).flatten) rfl q a' ha) fun q a' a x h1 Nr h3 h4=>?_
 ·simp only[Ha,List.mem_singleton]at hl;subst hl;rfl
 ·simp only[Ha,List.mem_singleton]at hl;subst hl;rfl
 ·have hv: ∀y:Value,y≠ .string fL→Kv (.string fL) (.v y):=fun y h=>by simp only[Kv];exact h
  match q,h1,Nr with
  |0,h1,Nr=>cases h1;cases Nr;exact same h3 h4 (hv _ (aiM _ (by decide)))
  |1,h1,Nr=>cases h1;cases Nr;exact same h3 h4 (hv _ (HL _))
  |2,h1,Nr=>
   cases h1;refine⟨_,?_,lf⟩;rw[k.cell _ _ fun hh=>by
    obtain⟨rfl,hh⟩:=hh;rw[hh,k.was]at h2;cases h2]
   exact h2
  |3,h1,Nr=>cases h1;cases Nr;exact same h3 h4 (hv _ (HL _))
  |n+4,h1,Nr=>cases h1
def G8:qH:=fun _ f args g nx r g' jf=>pO PP f∧lR PP f args g nx r g' jf
theorem apt:Any PP G8:=⟨fun h1 h2=>⟨h1,h2⟩⟩
theorem okC{T:Nat→Option FI}(hT:bF PP im T)(jY: ∀k,im k=true→xb T k=false)(ρ:Nat)(tree:Nat→Tree)(dead:Nat→List Nat)(op:List Nat)(fuel:Nat):Ok PP (o7 {I:=ak,L:=L,ρ:=ρ,sh:=[],tree:=tree,call:=G8,op:=op,dead:=dead,cl:=im,keys:=mv,eqs:=uk} T fuel 0):=by
 obtain⟨hC,hCR⟩:=Bf hT (C0:={I:=ak,L:=L,ρ:=ρ,sh:=[],tree:=tree,call:=G8,op:=op,dead:=dead,cl:=im,keys:=mv,eqs:=uk}) lay rfl (fun _ _ _ _ _ _ _ _ h=>h) jY KI RJ mixed (n:=fuel) (base:=0);obtain⟨m1,m2,m3,m4,m5⟩:=Rk (C0:={I:=ak,L:=L,ρ:=ρ,sh:=[],tree:=tree,call:=G8,op:=op,dead:=dead,cl:=im,keys:=mv,eqs:=uk}) (T:=T) (n:=fuel) (base:=0);exact⟨by rw[m1];exact lay,m2,fun ρ f args g nx r g' jf hh=>by rw[m3]at hh;exact hh,hC,hCR,PB,fun k hk=>by rw[m5];rw[m4]at hk;exact jY k hk,
  fun t ks hk=>by rw[(DG (T:=T) (n:=fuel) (base:=0)).1]at hk;exact KI t ks hk,fun t ks hk=>by rw[(DG (T:=T) (n:=fuel) (base:=0)).2]at hk;exact RJ t ks hk⟩
theorem aaT{k:Key}{off:Nat}{x:Value}(h:Cz E (.ptr k off) x):x= .pointer (some ⟨E.m k,off,none⟩):=by cases h;rfl
noncomputable def CM:ey:=o7 {I:=ak,L:=L,ρ:=1000000,sh:=[],tree:=JI,call:=G8,op:=[4009],dead:=K5,cl:=im,keys:=mv,eqs:=uk} (wQ 42 (XS 1000000) (fun _=>none)) 1 0
theorem okM:Ok PP CM:=okC (bF.cons (RI _) (vK PP im)) (Ld (by kernel_rfl) (cl0 im)) _ _ _ _ _
theorem al4(g:Nat→Option Ob)(nx:Nat)(hg: ∀i,g i=none)(h:bJ E0 E w w (init 29 [] g nx true) a):c41.wpIn (WF none) 0 PP (DZ E0 w (post CM [.cell 0 24] fun r1 g1 A7=>Lq r1 aaD∧g1=g∧A7=nx)) a w:=by
 rw[adg];refine arn okM mixed (by kernel_rfl) (by kernel_rfl) (by kernel_rfl) h (Zr rfl rfl G8 apt g nx) fun{s' E1 a1 w1} hs h1=>?_;subst hs;refine wpIn_seq ?_;rw[ann];have b2:=h1.bx 2 _ rfl
 obtain⟨Gx,c2,e2,hB2,abA,Ty,anK,hc2⟩:=b2;have anL:c2.size=3:=anK
 have abO:c2[2]? =some c2[2]:=by simp[anL]
 have XI:=hc2 2 _ _ rfl abO
 obtain⟨bb,ob,cb,Lr,hrb,hbc⟩:=U6 XI (by decide);obtain⟨hsb,y2,hy2,Tu⟩:=hbc 2 _ rfl;obtain⟨bo,oo,co,hxo,Gv,hoc⟩:=U6 Tu (by decide);subst hxo;obtain⟨hso,y5,hy5,hz5⟩:=hoc 5 _ rfl;have hz5:=bX hz5
 subst hz5;obtain⟨cO,eO,hO⟩:=h1.wf.fz _ _ hso (by rw[Gv];decide);have Zb:bo≠E1.m (.s 2):=fun e=>Ty _ (by rw[←e];exact hso)
 have anZ:bb≠E1.m (.s 2):=fun e=>Ty _ (by rw[←e];exact hsb)
 have hO5:cO[oo+5]? =some (.string fL):=by unfold aW at hy5;rw[hO]at hy5;exact hy5
 have aow:oo+5<cO.size:=(Array.getElem?_eq_some_iff.1 hO5).1
 have sU:a1.tmps.getD 2 undef= .pointer (some ⟨E1.m (.s 2),0,none⟩):=aaT (h1.tm 2 _ rfl trivial)
 rw[Lr]at abO;have aiQ: ∀(j:Nat) (d:Bool),(Array.replicate 10 false).getD j false=true→False:=fun j d hh=>by
  simp only[Array.getD_eq_getD_getElem?,Array.getElem?_replicate]at hh
  split at hh<;>simp at hh
 refine wpIn_region_any mixed (rT (cl:=im) none _ _ _ _ ?_);rw[L1];refine am5 (w:={w1 with drawn:=w1.drawn+1}) (w0:=w1) (H:=E1.h) (base:=fun d=>a1.tmps.getD d undef) (df:=a1.defers) U3 ab7 sU hB2 (by omega) abO (by decide) hy2 (by decide) hO aow Zb anZ (fun l a' w' hi hr=>?_)
  ⟨by simp,?_,⟨rfl,rfl,rfl⟩,fun hh=>(aiQ 9 false hh).elim,fun hh=>(aiQ 8 false hh).elim,h1.sz,rfl,fun d _=>rfl,fun x _ hh=>(aiQ _ false hh).elim⟩ 10 (by simp)
 ·
  have lg:=Qy (ops:=xL) (by rw[hi.sz,L1]) (ajs au7) hr
  have Nl:=hi.heap
  rw[lg 6 (by rw[L1];decide),lg 9 (by rw[L1];decide)]at Nl;have ai2:E1.m (.s 2)<E1.h.size:=(Array.getElem?_eq_some_iff.1 hB2).1
  have an5:bo<E1.h.size:=(Array.getElem?_eq_some_iff.1 hO).1
  have h6:=h1.rR (w':={w' with heap:=E1.h.setIfInBounds (E1.m (.s 2)) (.cells (c2.setIfInBounds 0 iF) e2 (0,0))}) (d:=2) (ob0:=_) rfl (o:= .cells (c2.setIfInBounds 0 iF) e2 (0,0)) (ob:= .box [vs tF,vi 0,.sl 1000001 (Ha 1000001 fL)])
   (Ca (off:=0) (vs:=[vs tF]) (ys:=[iF]) h1.wf Gx hB2 abA Ty ⟨anK,hc2⟩ (by decide) rfl fun q a y ha hy=>by
    cases q with
    |zero=>cases ha;cases hy;exact .v _
    |succ q=>simp at ha) (by rw[h1.heap]) hi.same abA Ty
  have ajm:=(XI.ext (jC abA Ty (.cells (c2.setIfInBounds 0 iF) e2 (0,0))) h1.wf (fun _=>false) (gw _)).2 rfl
  have anV:=(Tu.ext (jC abA Ty (.cells (c2.setIfInBounds 0 iF) e2 (0,0))) h1.wf (fun _=>false) (gw _)).2 rfl
  generalize hE6:E1.write (.s 2) (.cells (c2.setIfInBounds 0 iF) e2 (0,0))=E6 at h6 ajm anV;have h6h:E6.h=E1.h.setIfInBounds (E1.m (.s 2)) (.cells (c2.setIfInBounds 0 iF) e2 (0,0)):=by rw[←hE6];rfl
  have h6s:E6.aR=E1.aR:=by rw[←hE6];rfl
  have h6r:E6.eo=E1.eo:=by rw[←hE6];rfl
  have h6m:E6.m=E1.m:=by rw[←hE6];rfl
  have h6o:E6.h[bo]? =some (.cells cO eO (0,0)):=by rw[h6h,Array.getElem?_setIfInBounds_ne (Ne.symm Zb)];exact hO
  have Ei:w'.heap=E6.h.setIfInBounds bo (.cells (cO.setIfInBounds (oo+5) iF) eO (0,0)):=by rw[Nl,h6h];rfl
  have sp:lQ E6 1000001 {w' with heap:=E1.h.setIfInBounds (E1.m (.s 2)) (.cells (c2.setIfInBounds 0 iF) e2 (0,0))} w':=by
   refine⟨⟨rfl,rfl,rfl⟩,by rw[Ei];simp,fun b hb=>?_⟩;by_cases wm:b=bo
   ·subst wm;refine .inr ⟨cO,cO.setIfInBounds (oo+5) iF,eO,h6o,by rw[Ei];simp[h6h,an5],by simp,fun o ho=>?_⟩;have:oo+5≠o:=fun e=>ho ⟨by rw[h6s,←e];exact hso,by rw[h6r];exact Gv⟩
    rw[Array.getElem?_setIfInBounds_ne this]
   ·left;rw[Ei,Array.getElem?_setIfInBounds_ne (Ne.symm wm)]
  have hnr:pA 1000001 (UP.af.map (aA .ak 1000000)):=vY (M:= .ak) rfl (q:=1000000) (r:=1000001) (by decide) UP.af
  have h9:=h6.eg (kp:=True) sp (by decide) rfl rfl hg (And.intro trivial (And.intro trivial (And.intro trivial trivial)))
   (And.intro (And.intro trivial trivial) (And.intro (And.intro hnr trivial) (And.intro (And.intro trivial (And.intro trivial (And.intro trivial trivial))) trivial))) trivial
  have cne: ∀{b o:Nat},b≠bo→aW w'.heap b o=aW E6.h b o:=fun{b o} hb=>by
   unfold aW;rw[Ei,Array.getElem?_setIfInBounds_ne (Ne.symm hb)]
  have ceq: ∀o,aW w'.heap bo o=(cO.setIfInBounds (oo+5) iF)[o]? :=fun o=>by
   have:w'.heap[bo]? =some (.cells (cO.setIfInBounds (oo+5) iF) eO (0,0)):=by rw[Ei];simp[h6h,an5]
   unfold aW;rw[this]
  have k:YI E6 (E6.eg 1000001 True w') bo (oo+5) fL:=by
   refine⟨fun b o hs=>⟨hs,.inl trivial⟩,fun _=>rfl,fun b o dj=>?_,by unfold aW;rw[h6o];exact hO5⟩;show aW w'.heap b o=_;by_cases hb:b=bo
   ·subst hb;have ho:oo+5≠o:=fun e=>dj ⟨rfl,e.symm⟩
    rw[ceq,Array.getElem?_setIfInBounds_ne ho];unfold aW;rw[h6o]
   ·exact cne hb
  have hy6:aW E6.h bb (ob+2)=some (.slice (some ⟨bo,oo,none⟩) (S2 1000001 fL).length co):=by
   have:E6.h[bb]? =E1.h[bb]? :=by rw[h6h,Array.getElem?_setIfInBounds_ne (Ne.symm anZ)]
   unfold aW at hy2 ⊢;rw[this];exact hy2
  have xU:aW (E6.eg 1000001 True w').h bo (oo+5)=some iF:=by
   show aW w'.heap bo (oo+5)=_;rw[ceq];simp[aow]
  rw[Lr]at ajm;have ajd:=Yr k ajm anV hy6 xU
  have B8:=h9.al3 (d:=2) (cs:=[vs tF,vi 0,.any]) (cs':=[vs tF,vi 0,.sl 1000001 (Ha 1000001 tF)]) rfl rfl (fun c e hce q av x ha hx=>by
   have hce:w'.heap[E6.m (.s 2)]? =some (.cells c e (0,0)):=hce
   rw[Ei,h6m,Array.getElem?_setIfInBounds_ne Zb,h6h]at hce;simp only[Array.getElem?_setIfInBounds_self_of_lt ai2,Option.some.injEq,Obj.cells.injEq]at hce;obtain⟨hce,_⟩:=hce;subst hce
   match q,ha,hx with
   |0,ha,hx=>
    cases ha;have:x=iF:=by simp[anL]at hx;exact hx.symm
    subst this;exact .v _
   |1,ha,hx=>
    cases ha;rw[Array.getElem?_setIfInBounds_ne (by decide)]at hx;have:=bX (hc2 1 _ _ rfl hx)
    subst this;exact .v _
   |2,ha,hx=>
    cases ha;rw[Array.getElem?_setIfInBounds_ne (by decide),abO]at hx;cases hx;exact ajd
   |n+3,ha,hx=>cases ha)
  have KV:bJ E0 (E6.eg 1000001 True w') w w' (s4 g nx) a1:=B8
  have h12:=KV.agn (a':=a') hi.tm hi.df rfl (fun d x hl=>hi.base d (by
   have hl:look d [(0,AV.ptr (.s 0) 0),(1,.ptr (.s 1) 0),(2,.ptr (.s 2) 0)]=some x:=hl
   simp only[aG]at hl
   split at hl
   ·omega
   ·split at hl
    ·omega
    ·split at hl
     ·omega
     ·cases hl))
  exact eI okM mixed k4 none (.inl rfl) (by kernel_rfl) h12 (alO rfl G8 apt g nx)
 ·exact h1.heap
theorem pW{I:Pr}(hI:I=ak){M:Md}(hM:M= .ak){n nx:Nat}{g:Nat→Option Ob}{v:ai}(h:v8 I M n=some v){r:Nat}(hr:r<1000000:=by decide):cj 41 [] (.agg (bd M r v)) g nx:=by
 subst hM;obtain rfl:=o5 h;have e1:=Go.Proofs.Tryz.ntmps41
 have e2:Go.Proofs.Tryz.f41.results.toList=[.cell 0 24]:=by kernel_rfl
 have h1: ∀g:Nat→Option Ob,(∀i,g i=none)→ ∀nx,wK PP true 41 [] g nx fun r1 g1 A7=>Lq r1 aaD∧g1=g∧A7=nx:=fun g hg nx=>
  wK.ofRaw okM Go.Proofs.Tryz.func41 (c:=c41) (by kernel_rfl) (by rw[e1];decide) true fun h=>by
   rw[e1]at h;rw[e2];exact al4 g nx hg h
 exact⟨enters Go.Proofs.Tryz.func41 (c:=c41) (by kernel_rfl) (by kernel_rfl),wK.ana h1 (fun r hr=>trivial) (by simp[aaD,HiA,HiL,YM,aA,Ef,Ha,S2,ail,aB,bu,Md.ak,vs,vi,ax]) rfl g nx hr⟩
end Ab
namespace Ab
open Go Go.Proofs.Tryz
set_option maxHeartbeats 100000000
set_option maxRecDepth 100000
variable{I:Pr}(hI:I=ak){M:Md}(hM:M= .ak){n nx r s p q u rl:Nat}{g:Nat→Option Ob}
 include hI hM
theorem yh{a0:aj}{a1:ByteArray}{v:Bool}(h:oQ I M n a0 a1=some v):
  cj 144 [(.agg (aA M r a0)),(.aX r [(vs a1)] 0)] (vb v) g nx:=have _:=hM;by
 refine cK func144 avv r ZL acs [] 8 ntmps144 [.tmp 3] hI fun call hc=>?_;cbv;cases h;exact fin
 include hI hM
theorem qN{a0:List aj}{bn:ByteArray}{v:Int}(h:fY I M n a0 bn=some v):
  cj 92 [(.sl r (M.map (aA M r) a0)),(.fn (.func 144) [(.aX r [(vs bn)] 0)])] (vi v) g nx:=by
 refine cK func92 c92 r JG K3 [] 19 ntmps92 [.tmp 4] hI fun call hc=>?_;cbv;refine letE h fun n1 dw h=>⟨_,an hI hM dw,?_⟩;cbv;refine lp h (fun z2=>[(8,(vi z2))]) (fun z2=>[]) fun kS m1 aZ z2 h=>?_;dsimp only[jU]at h;cbv;refine si h (fun h=>?_) fun h=>by cbv;cases h;exact fin
 cbv;refine ah h fun x3 lG h=>⟨_,aq hM lG rfl,?_⟩;cbv;refine ah h fun y4 nI h=>⟨_,_,_,us hc (yh hI hM nI),?_⟩;cbv;refine si h (fun h=>by cbv;cases h;exact fin) fun h=>?_;cbv;exact b8 (aZ _ _ h)
 include hI hM
theorem fS{a0:ByteArray}{a1:ai}{v:Int}(h:di I M n a0 a1=some v):
  cj 143 [(vs a0),(.aX r (bd M r a1) 0)] (vi v) g nx:=by
 refine cK func143 avw r ZM acu [] 8 ntmps143 [.tmp 3] hI fun call hc=>?_;cbv;refine ah h fun y1 c4 h=>⟨_,_,_,us hc (qN hI hM c4),?_⟩;cbv;cbv;cases h;exact fin
 include hI hM
theorem Ev{a0:Int}{a1:Int}{v:Bool}(h:BP I M n a0 a1=some v):
  cj 146 [(vi a0),(.aX r [(vi a1)] 0)] (vb v) g nx:=have _:=hM;by
 refine cK func146 avt r ZJ acq [] 11 ntmps146 [.tmp 3] hI fun call hc=>?_;cbv;cases h;exact fin
 include hI hM
theorem wD{a0:Int}{bn:Int}{v:Bool}(h:lO I M n a0 bn=some v):
  cj 157 [(vi a0),(.aX r [(.fn (.func 146) [(.aX r [(vi bn)] 0)])] 0)] (vb v) g nx:=by
 refine cK func157 avm r ZA acg [] 8 ntmps157 [.tmp 3] hI fun call hc=>?_;cbv;refine ah h fun y1 c4 h=>⟨_,_,_,us hc (Ev hI hM c4),?_⟩;cbv;cbv;cases h;exact fin
 include hI hM
theorem sE{a0:List Int}{sM:Int}{v:Int}(h:mZ I M n a0 sM=some v):
  cj 159 [(.sl r (M.map ax a0)),(.fn (.func 157) [(.aX r [(.fn (.func 146) [(.aX r [(vi sM)] 0)])] 0)])] (vi v) g nx:=by
 refine cK func159 akC r JJ K6 [] 19 ntmps159 [.tmp 4] hI fun call hc=>?_;cbv;refine letE h fun n1 dw h=>⟨_,an hI hM dw,?_⟩;cbv;refine lp h (fun z2=>[(8,(vi z2))]) (fun z2=>[]) fun kS m1 aZ z2 h=>?_;dsimp only[lx]at h;cbv;refine si h (fun h=>?_) fun h=>by cbv;cases h;exact fin
 cbv;refine ah h fun x3 lG h=>⟨_,aq hM lG rfl,?_⟩;cbv;refine ah h fun y4 nI h=>⟨_,_,_,us hc (wD hI hM nI),?_⟩;cbv;refine si h (fun h=>by cbv;cases h;exact fin) fun h=>?_;cbv;exact b8 (aZ _ _ h)
 include hI hM
theorem qA{a0:List Int}{sM:Int}{v:Bool}(h:fA I M n a0 sM=some v):
  cj 148 [(.sl r (M.map ax a0)),(.fn (.func 157) [(.aX r [(.fn (.func 146) [(.aX r [(vi sM)] 0)])] 0)])] (vb v) g nx:=by
 refine cK func148 akD r JK K7 [] 9 ntmps148 [.tmp 4] hI fun call hc=>?_;cbv;refine ah h fun y1 c4 h=>⟨_,_,_,us hc (sE hI hM c4),?_⟩;cbv;cbv;cases h;exact fin
 include hI hM
theorem yg{a0:List Int}{bn:Int}{v:Bool}(h:jZ I M n a0 bn=some v):
  cj 145 [(.sl r (M.map ax a0)),(.fn (.func 146) [(.aX r [(vi bn)] 0)])] (vb v) g nx:=by
 refine cK func145 avu r ZK acr [] 9 ntmps145 [.tmp 4] hI fun call hc=>?_;cbv;refine ah h fun y1 c4 h=>⟨_,_,_,us hc (qA hI hM c4),?_⟩;cbv;cbv;cases h;exact fin
 include hI hM
theorem vm{a0:ByteArray}{v:(List Bool)×Bool}(h:j0 I M n a0=some v):
  cj 162 [(vs a0)] (.gY [(.ar 256 1 (M.map cS v.1)),(vb v.2)]) g nx:=by
 obtain⟨r,_⟩: ∃x:Nat,x=0:=⟨_,rfl⟩;refine cK func162 avi r Zw acb [] 21 ntmps162 [.cell 2 159,.tmp 3] hI fun call hc=>?_;cbv;refine letE h fun l1 Kk h=>⟨_,⟨rfl,eR (enc:=cS) hI hM Kk rfl⟩,?_⟩;cbv;refine lp h (fun(l2,z3)=>[(4,(vi z3))]) (fun(l2,z3)=>[(2,.arr 1 (M.map cS l2))]) fun kS m1 aZ st h=>?_;obtain⟨l2,z3⟩:=st;dsimp only[nQ]at h;cbv;refine letE h fun n4 Pa h=>⟨_,iS hI Pa,?_⟩;cbv;refine si h (fun h=>?_) fun h=>?_
 ·cbv;refine ah h fun x5 sa h=>⟨_,pX sa,?_⟩;cbv;refine si h (fun h=>?_) fun h=>?_
  ·cbv;refine ah h fun u6 qu6 h=>?_
   (first|refine⟨⟨rfl,aQ hI hM qu6,rfl⟩,?_⟩|refine⟨⟨aQ hI hM qu6,trivial⟩,?_⟩|refine⟨aQ hI hM qu6,?_⟩)
   cbv;refine ah h fun u7 qu7 h=>?_
   (first|refine⟨⟨rfl,rfl,rfl,aQ hI hM qu7,rfl,(by have hq:=cg (enc:=cS) hM (fun _=>rfl) l2;rw[cR.eq_def]at hq;exact hq)⟩,?_⟩|refine⟨⟨aQ hI hM qu7,(by have hq:=cg (enc:=cS) hM (fun _=>rfl) l2;rw[cR.eq_def]at hq;exact hq)⟩,?_⟩)
   cbv;refine ah h fun u8 qu8 h=>?_;obtain rfl:=o5 h;cbv;(all_goals(repeat' apply And.intro));all_goals first|trivial|rfl|exact(aK hM)|exact aQ hI hM qu8
  cbv;refine ah h fun k9 qk9 h=>?_
  (first|refine⟨_,⟨rfl,rfl,aL hI qk9⟩,?_⟩|refine⟨_,aL hI qk9,?_⟩)
  cbv;refine ah h fun vE xB h=>?_;refine ah h fun AD Kj h=>⟨_,dV hI hM xB Kj (by decide) rfl rfl,?_⟩;cbv;exact b8 (aZ _ _ h)
 cbv;refine ah h fun u14 Ka h=>?_
 (first|refine⟨⟨rfl,aQ hI hM Ka,rfl⟩,?_⟩|refine⟨⟨aQ hI hM Ka,trivial⟩,?_⟩|refine⟨aQ hI hM Ka,?_⟩)
 cbv;refine ah h fun u15 VE h=>?_
 (first|refine⟨⟨rfl,rfl,rfl,aQ hI hM VE,rfl,(by have hq:=cg (enc:=cS) hM (fun _=>rfl) l2;rw[cR.eq_def]at hq;exact hq)⟩,?_⟩|refine⟨⟨aQ hI hM VE,(by have hq:=cg (enc:=cS) hM (fun _=>rfl) l2;rw[cR.eq_def]at hq;exact hq)⟩,?_⟩)
 cbv;refine ah h fun u16 J9 h=>?_;obtain rfl:=o5 h;cbv;all_goals(repeat' apply And.intro)
 all_goals first|trivial|rfl|exact(aK hM)|exact aQ hI hM J9
 include hI hM
theorem vl{a0:ByteArray}{a1:Int}{v:ByteArray}(h:pZ I M n a0 a1=some v):
  cj 160 [(vs a0),(.v (.int .u8 a1))] (vs v) g nx:=have _:=hM;by
 obtain⟨r,_⟩: ∃x:Nat,x=0:=⟨_,rfl⟩;refine cK func160 avk r Zy ace [] 17 ntmps160 [.tmp 4] hI fun call hc=>?_;cbv;refine lp h (fun z1=>[(0,(vs z1))]) (fun z1=>[]) fun kS m1 aZ z1 h=>?_;dsimp only[nP]at h;cbv;refine letE h fun n2 pf h=>⟨_,iS hI pf,?_⟩;cbv;refine ah h fun x3 lG h=>⟨_,fun hp=>pX (aE lG hp.1),?_⟩;cbv;refine si h (fun h=>?_) fun h=>by cbv;cases h;exact fin
 cbv;refine ah h fun s4 qs4 h=>⟨_,G0 hI qs4,?_⟩;cbv;exact b8 (aZ _ _ h)
 include hI hM
theorem ue{a0:ByteArray}{a1:Int}{v:ByteArray}(h:pc I M n a0 a1=some v):
  cj 161 [(vs a0),(.v (.int .u8 a1))] (vs v) g nx:=have _:=hM;by
 obtain⟨r,_⟩: ∃x:Nat,x=0:=⟨_,rfl⟩;refine cK func161 avj r Zx acd [] 23 ntmps161 [.tmp 4] hI fun call hc=>?_;cbv;refine lp h (fun z1=>[(0,(vs z1))]) (fun z1=>[]) fun kS m1 aZ z1 h=>?_;dsimp only[mV]at h;cbv;refine letE h fun n2 pf h=>⟨_,iS hI pf,?_⟩;cbv;refine⟨_,iS hI pf,?_⟩;cbv;refine ah h fun x3 lG h=>⟨_,fun hp=>pX (aE lG hp.1),?_⟩;cbv;refine si h (fun h=>?_) fun h=>by cbv;cases h;exact fin
 cbv;refine⟨_,iS hI pf,?_⟩;cbv;refine ah h fun s4 qs4 h=>⟨_,La hI qs4,?_⟩;cbv;exact b8 (aZ _ _ h)
 include hI hM
theorem Em{a0:ByteArray}{a1:ByteArray}{v:ByteArray}(h:kT I M n a0 a1=some v):
  cj 156 [(vs a0),(vs a1)] (vs v) g nx:=by
 obtain⟨r,_⟩: ∃x:Nat,x=0:=⟨_,rfl⟩;refine Aq func156 avn r ZB ach [] 43 ntmps156 [.tmp 4] hI (bF.cons (XT r) (bF.cons (XU r) (bF.cons (XV r) (vK PP im)))) 8 fun call hc=>?_;cbv;refine si h (fun h=>by cbv;cases h;exact fin) fun h=>?_;cbv;refine letE h fun n1 dw h=>⟨_,iS hI dw,?_⟩;cbv;refine ah h fun x2 Q4 h=>⟨_,fun hp=>pX (aE Q4 hp.1),?_⟩;cbv;refine si h (fun h=>?_) fun h=>?_
 ·cbv;refine ah h fun x3 lG h=>?_;refine ah h fun y4 nI h=>?_;refine ah h fun y5 HB h=>?_;apply Exists.intro;refine⟨?_,_,rfl,?_⟩
  ·cbv;(repeat' first|exact .inl rfl|exact trivial|(refine⟨_,pX lG,?_⟩;cbv)|(refine⟨_,_,_,us hc (ue hI hM nI),?_⟩;cbv)|(refine⟨_,_,_,us hc (vl hI hM HB),?_⟩;cbv)|apply And.intro);all_goals exact bw
  cbv;cases h;exact fin
 cbv;refine ah h fun y6 yW h=>⟨_,_,_,us hc (vm hI hM yW),?_⟩;cbv;refine letE h fun l7 ql7 h=>⟨_,⟨rfl,eR (enc:=cS) hI hM ql7 rfl⟩,?_⟩;cbv;refine ah h fun u8 qu8 h=>?_
 (first|refine⟨⟨rfl,rfl,rfl,aQ hI hM qu8,rfl,(by have hq:=cg (enc:=cS) hM (fun _=>rfl) y6.1;rw[cR.eq_def]at hq;exact hq)⟩,?_⟩|refine⟨⟨aQ hI hM qu8,(by have hq:=cg (enc:=cS) hM (fun _=>rfl) y6.1;rw[cR.eq_def]at hq;exact hq)⟩,?_⟩)
 cbv;refine si h (fun h=>?_) fun h=>?_
 ·as_aux_lemma=>
   cbv;refine lp h (fun z9=>[(0,(vs z9))]) (fun z9=>[]) fun kS m1 aZ z9 h=>?_;dsimp only[c9]at h;cbv;refine letE h fun Ky Ke h=>⟨_,iS hI Ke,?_⟩;cbv;refine si h (fun h=>?_) fun h=>?_
   ·as_aux_lemma=>
     cbv;refine⟨_,iS hI Ke,?_⟩;cbv;refine ah h fun Fg xA h=>⟨_,pX xA,?_⟩;cbv;refine ah h fun k12 Wz h=>?_
     (first|refine⟨_,⟨rfl,rfl,aL hI Wz⟩,?_⟩|refine⟨_,aL hI Wz,?_⟩)
     cbv;refine ah h fun Dk zR h=>⟨_,_,rfl,bj hM zR,rfl,?_⟩;cbv;refine si h (fun h=>?_) fun h=>?_
     ·cbv;refine lp h (fun wX=>[(0,(vs wX))]) (fun wX=>[]) fun Dc m2 dm wX h=>?_;dsimp only[cr]at h;cbv;refine letE h fun Gd FX h=>⟨_,iS hI FX,?_⟩;cbv;refine si h (fun h=>?_) fun h=>(by cbv;cases h;exact fin);cbv;refine ah h fun sQ Co h=>⟨_,pX Co,?_⟩;cbv;refine ah h fun Xg Eb h=>?_
      (first|refine⟨_,⟨rfl,rfl,aL hI Eb⟩,?_⟩|refine⟨_,aL hI Eb,?_⟩)
      cbv;refine ah h fun LL AW h=>⟨_,_,rfl,bj hM AW,rfl,?_⟩;cbv;refine si h (fun h=>by cbv;cases h;exact fin) fun h=>?_;cbv;refine ah h fun s21 ag9 h=>⟨_,G0 hI ag9,?_⟩;cbv;exact b8 (dm _ _ h)
     cbv;refine⟨_,iS hI Ke,?_⟩;cbv;refine ah h fun s22 ar4 h=>⟨_,La hI ar4,?_⟩;cbv;exact b8 (aZ _ _ h)
   cbv;refine lp h (fun wX=>[(0,(vs wX))]) (fun wX=>[]) fun Dc m2 dm wX h=>?_;dsimp only[cr]at h;cbv;refine letE h fun Gd FX h=>⟨_,iS hI FX,?_⟩;cbv;refine si h (fun h=>?_) fun h=>(by cbv;cases h;exact fin);cbv;refine ah h fun sQ Co h=>⟨_,pX Co,?_⟩;cbv;refine ah h fun Xg Eb h=>?_
   (first|refine⟨_,⟨rfl,rfl,aL hI Eb⟩,?_⟩|refine⟨_,aL hI Eb,?_⟩)
   cbv;refine ah h fun LL AW h=>⟨_,_,rfl,bj hM AW,rfl,?_⟩;cbv;refine si h (fun h=>by cbv;cases h;exact fin) fun h=>?_;cbv;refine ah h fun s21 ag9 h=>⟨_,G0 hI ag9,?_⟩;cbv;exact b8 (dm _ _ h)
 cbv;cases h
 include hI hM
theorem uj{a0:ByteArray}{v:Bool}(h:pC I M n a0=some v):
  cj 140 [(vs a0)] (vb v) g nx:=by
 obtain⟨r,_⟩: ∃x:Nat,x=0:=⟨_,rfl⟩;refine cK func140 avz r ZP acx [] 16 ntmps140 [.tmp 2] hI fun call hc=>?_;cbv;refine letE h fun n1 dw h=>⟨_,iS hI dw,?_⟩;cbv;refine⟨_,iS hI dw,?_⟩;cbv;refine ah h fun y2 sS h=>⟨_,fun hp=>us hc (Em hI hM (aE sS hp.1)),?_⟩;cbv;cbv;cases h;exact fin
 include hI hM
 include hI hM
 include hI hM
 include hI hM
theorem BI{a0:Int}{a1:List Bool}{v:Bool}(h:oN I M n a0 a1=some v):
  cj 158 [(vi a0),(.aX rl [(.sl r (M.map cS a1))] 0)] (vb v) g nx:=by
 refine cK func158 avl r Zz acf [] 8 ntmps158 [.tmp 3] hI fun call hc=>?_;cbv;refine ah h fun x1 qx1 h=>⟨_,aq hM qx1 rfl,?_⟩;cbv;cbv;cases h;exact fin
 include hI hM
theorem sD{a0:List Int}{bn:List Bool}{v:Int}(h:mY I M n a0 bn=some v):
  cj 159 [(.sl r (M.map ax a0)),(.fn (.func 158) [(.aX rl [(.sl r (M.map cS bn))] 0)])] (vi v) g nx:=by
 refine cK func159 akC r JJ K6 [] 19 ntmps159 [.tmp 4] hI fun call hc=>?_;cbv;refine letE h fun n1 dw h=>⟨_,an hI hM dw,?_⟩;cbv;refine lp h (fun z2=>[(8,(vi z2))]) (fun z2=>[]) fun kS m1 aZ z2 h=>?_;dsimp only[lu]at h;cbv;refine si h (fun h=>?_) fun h=>by cbv;cases h;exact fin
 cbv;refine ah h fun x3 lG h=>⟨_,aq hM lG rfl,?_⟩;cbv;refine ah h fun y4 nI h=>⟨_,_,_,us hc (BI hI hM nI),?_⟩;cbv;refine si h (fun h=>by cbv;cases h;exact fin) fun h=>?_;cbv;exact b8 (aZ _ _ h)
 include hI hM
theorem qy{a0:List Int}{bn:List Bool}{v:Bool}(h:fy I M n a0 bn=some v):
  cj 148 [(.sl r (M.map ax a0)),(.fn (.func 158) [(.aX rl [(.sl r (M.map cS bn))] 0)])] (vb v) g nx:=by
 refine cK func148 akD r JK K7 [] 9 ntmps148 [.tmp 4] hI fun call hc=>?_;cbv;refine ah h fun y1 c4 h=>⟨_,_,_,us hc (sD hI hM c4),?_⟩;cbv;cbv;cases h;exact fin
 include hI hM
theorem K0{a0:List aD}{v:List Bool}(h:yP I M n a0=some v):
  cj 147 [(.sl r (M.map (bu M r) a0))] (.sl r (M.map cS v)) g nx:=by
 refine cK func147 avs r ZI acp [3] 33 ntmps147 [.tmp 2] hI fun call hc=>?_;cbv;refine letE h fun n1 dw h=>⟨_,an hI hM dw,?_⟩;cbv;refine lp h (fun(l2,z3)=>[(9,(vi z3))]) (fun(l2,z3)=>[(3,.box [(.gs r (.c 3 0) (M.map cS l2))])]) fun kS m1 aZ st h=>?_;obtain⟨l2,z3⟩:=st;dsimp only[qC]at h;cbv;refine si h (fun h=>?_) fun h=>by cbv;cases h;exact fin
 cbv;refine ah h fun x4 ur h=>⟨_,aq hM ur rfl,?_⟩;cbv;refine ah h fun y5 HB h=>⟨fun _=>rfl,(vb y5),fun hp=>fun ρ=>by cbv;exact us hc (qy hI hM (aE (aE HB hp.1) hp.2.1)),?_⟩;cbv;refine⟨_,cq (enc:=cS) (x:=(I.pick (I.aS x4.kind 5) true (I.pick (I.aS x4.kind 3) y5 false))) hM (ao _) rfl,?_⟩;cbv;refine ah h fun l6 SY h=>⟨_,ay (enc:=cS) hI hM SY (fun _=>rfl) rfl (fun _=>rfl),?_⟩;cbv;exact b8 (aZ _ _ h)
 include hI hM
theorem Eu{a0:Int}{a1:List Bool}{v:Bool}(h:rE I M n a0 a1=some v):
  cj 149 [(vi a0),(.aX r [(.sl r (M.map cS a1))] 0)] (vb v) g nx:=by
 refine cK func149 avr r ZH aco [] 8 ntmps149 [.tmp 3] hI fun call hc=>?_;cbv;refine ah h fun x1 qx1 h=>⟨_,aq hM qx1 rfl,?_⟩;cbv;cbv;cases h;exact fin
 include hI hM
theorem sC{a0:List Int}{bn:List Bool}{v:Int}(h:mX I M n a0 bn=some v):
  cj 159 [(.sl r (M.map ax a0)),(.fn (.func 149) [(.aX r [(.sl r (M.map cS bn))] 0)])] (vi v) g nx:=by
 refine cK func159 akC r JJ K6 [] 19 ntmps159 [.tmp 4] hI fun call hc=>?_;cbv;refine letE h fun n1 dw h=>⟨_,an hI hM dw,?_⟩;cbv;refine lp h (fun z2=>[(8,(vi z2))]) (fun z2=>[]) fun kS m1 aZ z2 h=>?_;dsimp only[lr]at h;cbv;refine si h (fun h=>?_) fun h=>by cbv;cases h;exact fin
 cbv;refine ah h fun x3 lG h=>⟨_,aq hM lG rfl,?_⟩;cbv;refine ah h fun y4 nI h=>⟨_,_,_,us hc (Eu hI hM nI),?_⟩;cbv;refine si h (fun h=>by cbv;cases h;exact fin) fun h=>?_;cbv;exact b8 (aZ _ _ h)
 include hI hM
theorem qx{a0:List Int}{bn:List Bool}{v:Bool}(h:fx I M n a0 bn=some v):
  cj 148 [(.sl r (M.map ax a0)),(.fn (.func 149) [(.aX r [(.sl r (M.map cS bn))] 0)])] (vb v) g nx:=by
 refine cK func148 akD r JK K7 [] 9 ntmps148 [.tmp 4] hI fun call hc=>?_;cbv;refine ah h fun y1 c4 h=>⟨_,_,_,us hc (sC hI hM c4),?_⟩;cbv;cbv;cases h;exact fin
 include hI hM
theorem Qg{a0:ai}{a1:aj}{a2:ag}{a3:Int}{v:Int}(h:BQ I M n a0 a1 a2 a3=some v):
  cj 108 [(.agg (bd M r a0)),(.agg (aA M r a1)),(.agg (aB M r a2)),(vi a3)] (vi v) g nx:=by
 refine Aq func108 avX r aaj ac1 [] 147 ntmps108 [.tmp 8] hI (bF.cons (GM r) (vK PP im)) 8 fun call hc=>?_;cbv;refine ah h fun x1 qx1 h=>⟨_,aq hM qx1 rfl,?_⟩;cbv;apply Exists.intro;refine⟨?_,_,rfl,?_⟩
 ·cbv;repeat' first|exact .inl rfl|exact trivial|apply And.intro
  all_goals exact bw
 cbv;refine⟨_,Rd (enc:=(GV ax ax)) hM,?_⟩;cbv;refine ah h fun l2 Ea h=>⟨_,⟨rfl,Rh (f:=ax) (g:=ax) hI hM (n:=1) (fun _=>rfl) GW Ea rfl rfl⟩,?_⟩;cbv;refine ah h fun l3 Q6 h=>⟨_,⟨rfl,Rh (f:=ax) (g:=ax) hI hM (n:=1) (fun _=>rfl) GW Q6 rfl rfl⟩,?_⟩;cbv;refine letE h fun x4 ur h=>⟨_,⟨rfl,rfl,rfl,W7 (f:=ax) (g:=ax) hM (n:=1) (fun _=>rfl) GW (av:=(fun y=>(vi y))) (fun _=>rfl) ur rfl (ez _)⟩,?_⟩;cbv;refine si h (fun h=>by cbv;cases h;exact fin) fun h=>?_;cbv;refine ah h fun y5 HB h=>⟨_,fun hp=>us hc (uj hI hM (aE (aE HB hp.1) hp.2.1)),?_⟩;cbv;refine si h (fun h=>by cbv;cases h;exact fin) fun h=>?_;cbv;refine si h (fun h=>by cbv;cases h;exact fin) fun h=>?_;cbv;refine letE h fun n6 Q5 h=>⟨_,an hI hM Q5,?_⟩;cbv;refine⟨_,an hI hM Q5,?_⟩;cbv;refine si h (fun h=>by cbv;cases h;exact fin) fun h=>?_;cbv;refine ah h fun y7 HA h=>⟨_,_,_,us hc (yg hI hM HA),?_⟩;cbv;refine ah h fun y8 OT h=>⟨_,fun hp=>us hc (fS hI hM (aE (aE OT hp.1) hp.2.1)),?_⟩;cbv;refine si h (fun h=>by cbv;cases h;exact fin) fun h=>?_;cbv;refine si h (fun h=>by cbv;cases h;exact fin) fun h=>?_;cbv;refine ah h fun l9 ql9 h=>⟨_,K9 hI hM ql9 (fun _=>rfl),?_⟩;cbv;refine ah h fun wY tV h=>⟨_,_,_,us hc (K0 hI hM tV),?_⟩;cbv;refine ah h fun wL zQ h=>?_;refine ah h fun wO vQ h=>?_;refine ah h fun sP xz h=>?_;apply Exists.intro;refine⟨?_,_,rfl,?_⟩
 ·cbv;repeat' first|exact .inl rfl|exact trivial|(refine⟨_,an hI hM Q5,?_⟩;cbv)|(refine⟨_,_,_,us hc (fS hI hM zQ),?_⟩;cbv)|(refine⟨_,aq hM vQ rfl,?_⟩;cbv)|(refine⟨_,fun hp=>us hc (qx hI hM (aE xz hp.1)),?_⟩;cbv)|apply And.intro
  all_goals exact bw
 cbv;exact si h (fun h=>by cbv;cases h;exact fin) fun h=>by cbv;cases h;exact fin
 include hI hM
theorem Et{a0:ag}{v:Bool}(h:BO I M n a0=some v):
  cj 138 [(.agg (aB M r a0))] (vb v) g nx:=by
 refine cK func138 avB r ZR acz [] 13 ntmps138 [.tmp 2] hI fun call hc=>?_;cbv;refine letE h fun n1 dw h=>⟨_,an hI hM dw,?_⟩;cbv;refine⟨_,an hI hM dw,?_⟩;cbv;cbv;cases h;exact fin
 include hI hM
theorem tf{a0:ag}{v:Bool}(h:je I M n a0=some v):
  cj 155 [(.agg (aB M r a0)),(.aX r [(.fn (.func 138) [])] 0)] (vb v) g nx:=by
 refine cK func155 adi r EM EW [] 8 ntmps155 [.tmp 3] hI fun call hc=>?_;cbv;refine ah h fun y1 c4 h=>⟨_,_,_,us hc (Et hI hM c4),?_⟩;cbv;cbv;cases h;exact fin
 include hI hM
theorem qt{a0:List ag}{v:Int}(h:ke I M n a0=some v):
  cj 93 [(.sl r (M.map (aB M r) a0)),(.fn (.func 155) [(.aX r [(.fn (.func 138) [])] 0)])] (vi v) g nx:=by
 refine cK func93 c93 r vJ wE [] 19 ntmps93 [.tmp 4] hI fun call hc=>?_;cbv;refine letE h fun n1 dw h=>⟨_,an hI hM dw,?_⟩;cbv;refine lp h (fun z2=>[(8,(vi z2))]) (fun z2=>[]) fun kS m1 aZ z2 h=>?_;dsimp only[jq]at h;cbv;refine si h (fun h=>?_) fun h=>by cbv;cases h;exact fin
 cbv;refine ah h fun x3 lG h=>⟨_,aq hM lG rfl,?_⟩;cbv;refine ah h fun y4 nI h=>⟨_,_,_,us hc (tf hI hM nI),?_⟩;cbv;refine si h (fun h=>by cbv;cases h;exact fin) fun h=>?_;cbv;exact b8 (aZ _ _ h)
 include hI hM
theorem oK{a0:List ag}{v:Bool}(h:iO I M n a0=some v):
  cj 35 [(.sl r (M.map (aB M r) a0)),(.fn (.func 155) [(.aX r [(.fn (.func 138) [])] 0)])] (vb v) g nx:=by
 refine cK func35 c35 r zL Ap [] 9 ntmps35 [.tmp 4] hI fun call hc=>?_;cbv;refine ah h fun y1 c4 h=>⟨_,_,_,us hc (qt hI hM c4),?_⟩;cbv;cbv;cases h;exact fin
 include hI hM
theorem vy{a0:List ag}{v:Bool}(h:kN I M n a0=some v):
  cj 137 [(.sl r (M.map (aB M r) a0)),(.fn (.func 138) [])] (vb v) g nx:=by
 refine cK func137 adj r EN EX [] 9 ntmps137 [.tmp 4] hI fun call hc=>?_;cbv;refine ah h fun y1 c4 h=>⟨_,_,_,us hc (oK hI hM c4),?_⟩;cbv;cbv;cases h;exact fin
 include hI hM
theorem Es{a0:ag}{v:Bool}(h:BN I M n a0=some v):
  cj 139 [(.agg (aB M r a0))] (vb v) g nx:=have _:=hM;by
 refine cK func139 avA r ZQ acy [] 11 ntmps139 [.tmp 2] hI fun call hc=>?_;cbv;cases h;exact fin
 include hI hM
theorem td{a0:ag}{v:Bool}(h:jd I M n a0=some v):
  cj 155 [(.agg (aB M r a0)),(.aX r [(.fn (.func 139) [])] 0)] (vb v) g nx:=by
 refine cK func155 adi r EM EW [] 8 ntmps155 [.tmp 3] hI fun call hc=>?_;cbv;refine ah h fun y1 c4 h=>⟨_,_,_,us hc (Es hI hM c4),?_⟩;cbv;cbv;cases h;exact fin
 include hI hM
theorem qs{a0:List ag}{v:Int}(h:kb I M n a0=some v):
  cj 93 [(.sl r (M.map (aB M r) a0)),(.fn (.func 155) [(.aX r [(.fn (.func 139) [])] 0)])] (vi v) g nx:=by
 refine cK func93 c93 r vJ wE [] 19 ntmps93 [.tmp 4] hI fun call hc=>?_;cbv;refine letE h fun n1 dw h=>⟨_,an hI hM dw,?_⟩;cbv;refine lp h (fun z2=>[(8,(vi z2))]) (fun z2=>[]) fun kS m1 aZ z2 h=>?_;dsimp only[jo]at h;cbv;refine si h (fun h=>?_) fun h=>by cbv;cases h;exact fin
 cbv;refine ah h fun x3 lG h=>⟨_,aq hM lG rfl,?_⟩;cbv;refine ah h fun y4 nI h=>⟨_,_,_,us hc (td hI hM nI),?_⟩;cbv;refine si h (fun h=>by cbv;cases h;exact fin) fun h=>?_;cbv;exact b8 (aZ _ _ h)
 include hI hM
theorem oJ{a0:List ag}{v:Bool}(h:iN I M n a0=some v):
  cj 35 [(.sl r (M.map (aB M r) a0)),(.fn (.func 155) [(.aX r [(.fn (.func 139) [])] 0)])] (vb v) g nx:=by
 refine cK func35 c35 r zL Ap [] 9 ntmps35 [.tmp 4] hI fun call hc=>?_;cbv;refine ah h fun y1 c4 h=>⟨_,_,_,us hc (qs hI hM c4),?_⟩;cbv;cbv;cases h;exact fin
 include hI hM
theorem vx{a0:List ag}{v:Bool}(h:kM I M n a0=some v):
  cj 137 [(.sl r (M.map (aB M r) a0)),(.fn (.func 139) [])] (vb v) g nx:=by
 refine cK func137 adj r EN EX [] 9 ntmps137 [.tmp 4] hI fun call hc=>?_;cbv;refine ah h fun y1 c4 h=>⟨_,_,_,us hc (oJ hI hM c4),?_⟩;cbv;cbv;cases h;exact fin
 include hI hM
theorem qU{a0:ag}{v:Bool}(h:lk I M n a0=some v):
  cj 133 [(.agg (aB M r a0))] (vb v) g nx:=have _:=hM;by
 refine cK func133 avF r ZV acD [] 6 ntmps133 [.tmp 2] hI fun call hc=>?_;cbv;cases h;exact fin
 include hI hM
theorem An{a0:ag}{v:Bool}(h:mM I M n a0=some v):
  cj 141 [(.agg (aB M r a0)),(.aX r [(.fn (.func 133) [])] 0)] (vb v) g nx:=by
 refine cK func141 avy r ZO acw [] 12 ntmps141 [.tmp 3] hI fun call hc=>?_;cbv;refine ah h fun y1 c4 h=>⟨_,_,_,us hc (qU hI hM c4),?_⟩;cbv;refine ah h fun y2 sS h=>⟨_,fun hp=>us hc (uj hI hM (aE sS hp.1)),?_⟩;cbv;cbv;cases h;exact fin
 include hI hM
theorem ta{a0:ag}{v:Bool}(h:jc I M n a0=some v):
  cj 155 [(.agg (aB M r a0)),(.aX r [(.fn (.func 141) [(.aX r [(.fn (.func 133) [])] 0)])] 0)] (vb v) g nx:=by
 refine cK func155 adi r EM EW [] 8 ntmps155 [.tmp 3] hI fun call hc=>?_;cbv;refine ah h fun y1 c4 h=>⟨_,_,_,us hc (An hI hM c4),?_⟩;cbv;cbv;cases h;exact fin
 include hI hM
theorem qq{a0:List ag}{v:Int}(h:ka I M n a0=some v):
  cj 93 [(.sl r (M.map (aB M r) a0)),(.fn (.func 155) [(.aX r [(.fn (.func 141) [(.aX r [(.fn (.func 133) [])] 0)])] 0)])] (vi v) g nx:=by
 refine cK func93 c93 r vJ wE [] 19 ntmps93 [.tmp 4] hI fun call hc=>?_;cbv;refine letE h fun n1 dw h=>⟨_,an hI hM dw,?_⟩;cbv;refine lp h (fun z2=>[(8,(vi z2))]) (fun z2=>[]) fun kS m1 aZ z2 h=>?_;dsimp only[jn]at h;cbv;refine si h (fun h=>?_) fun h=>by cbv;cases h;exact fin
 cbv;refine ah h fun x3 lG h=>⟨_,aq hM lG rfl,?_⟩;cbv;refine ah h fun y4 nI h=>⟨_,_,_,us hc (ta hI hM nI),?_⟩;cbv;refine si h (fun h=>by cbv;cases h;exact fin) fun h=>?_;cbv;exact b8 (aZ _ _ h)
 include hI hM
theorem oI{a0:List ag}{v:Bool}(h:iM I M n a0=some v):
  cj 35 [(.sl r (M.map (aB M r) a0)),(.fn (.func 155) [(.aX r [(.fn (.func 141) [(.aX r [(.fn (.func 133) [])] 0)])] 0)])] (vb v) g nx:=by
 refine cK func35 c35 r zL Ap [] 9 ntmps35 [.tmp 4] hI fun call hc=>?_;cbv;refine ah h fun y1 c4 h=>⟨_,_,_,us hc (qq hI hM c4),?_⟩;cbv;cbv;cases h;exact fin
 include hI hM
theorem vw{a0:List ag}{v:Bool}(h:kL I M n a0=some v):
  cj 137 [(.sl r (M.map (aB M r) a0)),(.fn (.func 141) [(.aX r [(.fn (.func 133) [])] 0)])] (vb v) g nx:=by
 refine cK func137 adj r EN EX [] 9 ntmps137 [.tmp 4] hI fun call hc=>?_;cbv;refine ah h fun y1 c4 h=>⟨_,_,_,us hc (oI hI hM c4),?_⟩;cbv;cbv;cases h;exact fin
 include hI hM
theorem s8{a0:ag}{v:Bool}(h:ja I M n a0=some v):
  cj 155 [(.agg (aB M r a0)),(.aX r [(.fn (.func 133) [])] 0)] (vb v) g nx:=by
 refine cK func155 adi r EM EW [] 8 ntmps155 [.tmp 3] hI fun call hc=>?_;cbv;refine ah h fun y1 c4 h=>⟨_,_,_,us hc (qU hI hM c4),?_⟩;cbv;cbv;cases h;exact fin
 include hI hM
theorem qo{a0:List ag}{v:Int}(h:j7 I M n a0=some v):
  cj 93 [(.sl r (M.map (aB M r) a0)),(.fn (.func 155) [(.aX r [(.fn (.func 133) [])] 0)])] (vi v) g nx:=by
 refine cK func93 c93 r vJ wE [] 19 ntmps93 [.tmp 4] hI fun call hc=>?_;cbv;refine letE h fun n1 dw h=>⟨_,an hI hM dw,?_⟩;cbv;refine lp h (fun z2=>[(8,(vi z2))]) (fun z2=>[]) fun kS m1 aZ z2 h=>?_;dsimp only[jl]at h;cbv;refine si h (fun h=>?_) fun h=>by cbv;cases h;exact fin
 cbv;refine ah h fun x3 lG h=>⟨_,aq hM lG rfl,?_⟩;cbv;refine ah h fun y4 nI h=>⟨_,_,_,us hc (s8 hI hM nI),?_⟩;cbv;refine si h (fun h=>by cbv;cases h;exact fin) fun h=>?_;cbv;exact b8 (aZ _ _ h)
 include hI hM
theorem oG{a0:List ag}{v:Bool}(h:iL I M n a0=some v):
  cj 35 [(.sl r (M.map (aB M r) a0)),(.fn (.func 155) [(.aX r [(.fn (.func 133) [])] 0)])] (vb v) g nx:=by
 refine cK func35 c35 r zL Ap [] 9 ntmps35 [.tmp 4] hI fun call hc=>?_;cbv;refine ah h fun y1 c4 h=>⟨_,_,_,us hc (qo hI hM c4),?_⟩;cbv;cbv;cases h;exact fin
 include hI hM
theorem vv{a0:List ag}{v:Bool}(h:kK I M n a0=some v):
  cj 137 [(.sl r (M.map (aB M r) a0)),(.fn (.func 133) [])] (vb v) g nx:=by
 refine cK func137 adj r EN EX [] 9 ntmps137 [.tmp 4] hI fun call hc=>?_;cbv;refine ah h fun y1 c4 h=>⟨_,_,_,us hc (oG hI hM c4),?_⟩;cbv;cbv;cases h;exact fin
 include hI hM
theorem Am{a0:ag}{a2:aj}{v:Bool}(h:mL I M n a0 a2=some v):
  cj 142 [(.agg (aB M r a0)),(.aX r [(.fn (.func 133) [])] 0),(.aX r (aA M r a2) 0)] (vb v) g nx:=by
 refine cK func142 avx r ZN acv [] 19 ntmps142 [.tmp 4] hI fun call hc=>?_;cbv;refine ah h fun y1 c4 h=>⟨_,_,_,us hc (qU hI hM c4),?_⟩;cbv;refine letE h fun n2 pf h=>⟨_,an hI hM pf,?_⟩;cbv;cbv;cases h;exact fin
 include hI hM
theorem qp{a0:List ag}{xj:aj}{v:Int}(h:j8 I M n a0 xj=some v):
  cj 93 [(.sl r (M.map (aB M r) a0)),(.fn (.func 142) [(.aX r [(.fn (.func 133) [])] 0),(.aX r (aA M r xj) 0)])] (vi v) g nx:=by
 refine cK func93 c93 r vJ wE [] 19 ntmps93 [.tmp 4] hI fun call hc=>?_;cbv;refine letE h fun n1 dw h=>⟨_,an hI hM dw,?_⟩;cbv;refine lp h (fun z2=>[(8,(vi z2))]) (fun z2=>[]) fun kS m1 aZ z2 h=>?_;dsimp only[jm]at h;cbv;refine si h (fun h=>?_) fun h=>by cbv;cases h;exact fin
 cbv;refine ah h fun x3 lG h=>⟨_,aq hM lG rfl,?_⟩;cbv;refine ah h fun y4 nI h=>⟨_,_,_,us hc (Am hI hM nI),?_⟩;cbv;refine si h (fun h=>by cbv;cases h;exact fin) fun h=>?_;cbv;exact b8 (aZ _ _ h)
 include hI hM
theorem oH{a0:List ag}{xj:aj}{v:Bool}(h:eB I M n a0 xj=some v):
  cj 35 [(.sl r (M.map (aB M r) a0)),(.fn (.func 142) [(.aX r [(.fn (.func 133) [])] 0),(.aX r (aA M r xj) 0)])] (vb v) g nx:=by
 refine cK func35 c35 r zL Ap [] 9 ntmps35 [.tmp 4] hI fun call hc=>?_;cbv;refine ah h fun y1 c4 h=>⟨_,_,_,us hc (qp hI hM c4),?_⟩;cbv;cbv;cases h;exact fin
 include hI hM
theorem yf{a0:ag}{a1:ag}{v:Bool}(h:oP I M n a0 a1=some v):
  cj 135 [(.agg (aB M r a0)),(.aX r (aB M r a1) 0)] (vb v) g nx:=have _:=hM;by
 refine cK func135 avD r ZT acB [] 16 ntmps135 [.tmp 3] hI fun call hc=>?_;cbv;cases h;exact fin
 include hI hM
theorem ql{a0:List ag}{bn:ag}{v:Int}(h:fw I M n a0 bn=some v):
  cj 93 [(.sl r (M.map (aB M r) a0)),(.fn (.func 135) [(.aX r (aB M r bn) 0)])] (vi v) g nx:=by
 refine cK func93 c93 r vJ wE [] 19 ntmps93 [.tmp 4] hI fun call hc=>?_;cbv;refine letE h fun n1 dw h=>⟨_,an hI hM dw,?_⟩;cbv;refine lp h (fun z2=>[(8,(vi z2))]) (fun z2=>[]) fun kS m1 aZ z2 h=>?_;dsimp only[jj]at h;cbv;refine si h (fun h=>?_) fun h=>by cbv;cases h;exact fin
 cbv;refine ah h fun x3 lG h=>⟨_,aq hM lG rfl,?_⟩;cbv;refine ah h fun y4 nI h=>⟨_,_,_,us hc (yf hI hM nI),?_⟩;cbv;refine si h (fun h=>by cbv;cases h;exact fin) fun h=>?_;cbv;exact b8 (aZ _ _ h)
 include hI hM
theorem ye{a0:ag}{a1:ag}{v:Bool}(h:oO I M n a0 a1=some v):
  cj 136 [(.agg (aB M r a0)),(.aX r (aB M r a1) 0)] (vb v) g nx:=have _:=hM;by
 refine cK func136 avC r ZS acA [] 16 ntmps136 [.tmp 3] hI fun call hc=>?_;cbv;cases h;exact fin
 include hI hM
theorem qj{a0:List ag}{bn:ag}{v:Int}(h:fv I M n a0 bn=some v):
  cj 93 [(.sl r (M.map (aB M r) a0)),(.fn (.func 136) [(.aX r (aB M r bn) 0)])] (vi v) g nx:=by
 refine cK func93 c93 r vJ wE [] 19 ntmps93 [.tmp 4] hI fun call hc=>?_;cbv;refine letE h fun n1 dw h=>⟨_,an hI hM dw,?_⟩;cbv;refine lp h (fun z2=>[(8,(vi z2))]) (fun z2=>[]) fun kS m1 aZ z2 h=>?_;dsimp only[ji]at h;cbv;refine si h (fun h=>?_) fun h=>by cbv;cases h;exact fin
 cbv;refine ah h fun x3 lG h=>⟨_,aq hM lG rfl,?_⟩;cbv;refine ah h fun y4 nI h=>⟨_,_,_,us hc (ye hI hM nI),?_⟩;cbv;refine si h (fun h=>by cbv;cases h;exact fin) fun h=>?_;cbv;exact b8 (aZ _ _ h)
 include hI hM
theorem Ao{a0:ag}{a1:aj}{v:Bool}(h:jA I M n a0 a1=some v):
  cj 134 [(.agg (aB M r a0)),(.aX r (aA M r a1) 0)] (vb v) g nx:=by
 refine cK func134 avE r ZU acC [] 19 ntmps134 [.tmp 3] hI fun call hc=>?_;cbv;refine ah h fun y1 c4 h=>⟨_,_,_,us hc (ql hI hM c4),?_⟩;cbv;refine ah h fun l2 Ea h=>⟨_,ac9 hI hM Ea (fun _=>rfl),?_⟩;cbv;refine ah h fun y3 D8 h=>⟨_,_,_,us hc (qj hI hM D8),?_⟩;cbv;cbv;cases h;exact fin
 include hI hM
theorem qm{a0:List ag}{bn:aj}{v:Int}(h:j5 I M n a0 bn=some v):
  cj 93 [(.sl r (M.map (aB M r) a0)),(.fn (.func 134) [(.aX r (aA M r bn) 0)])] (vi v) g nx:=by
 refine cK func93 c93 r vJ wE [] 19 ntmps93 [.tmp 4] hI fun call hc=>?_;cbv;refine letE h fun n1 dw h=>⟨_,an hI hM dw,?_⟩;cbv;refine lp h (fun z2=>[(8,(vi z2))]) (fun z2=>[]) fun kS m1 aZ z2 h=>?_;dsimp only[jk]at h;cbv;refine si h (fun h=>?_) fun h=>by cbv;cases h;exact fin
 cbv;refine ah h fun x3 lG h=>⟨_,aq hM lG rfl,?_⟩;cbv;refine ah h fun y4 nI h=>⟨_,_,_,us hc (Ao hI hM nI),?_⟩;cbv;refine si h (fun h=>by cbv;cases h;exact fin) fun h=>?_;cbv;exact b8 (aZ _ _ h)
 include hI hM
theorem oF{a0:List ag}{bn:aj}{v:Bool}(h:cZ I M n a0 bn=some v):
  cj 35 [(.sl r (M.map (aB M r) a0)),(.fn (.func 134) [(.aX r (aA M r bn) 0)])] (vb v) g nx:=by
 refine cK func35 c35 r zL Ap [] 9 ntmps35 [.tmp 4] hI fun call hc=>?_;cbv;refine ah h fun y1 c4 h=>⟨_,_,_,us hc (qm hI hM c4),?_⟩;cbv;cbv;cases h;exact fin
 include hI hM
theorem HW{a0:aj}{v:Int}(h:wF I M n a0=some v):
  cj 106 [(.agg (aA M r a0))] (vi v) g nx:=by
 refine cK func106 avY r aal ac3 [] 71 ntmps106 [.tmp 2] hI fun call hc=>?_;cbv;refine letE h fun n1 dw h=>⟨_,an hI hM dw,?_⟩;cbv;refine⟨_,an hI hM dw,?_⟩;cbv;refine ah h fun y2 sS h=>⟨_,fun hp=>us hc (vy hI hM (aE sS hp.1)),?_⟩;cbv;refine si h (fun h=>by cbv;cases h;exact fin) fun h=>?_;cbv;refine ah h fun y3 D8 h=>⟨_,fun hp=>us hc (vx hI hM (aE D8 hp.1)),?_⟩;cbv;refine si h (fun h=>by cbv;cases h;exact fin) fun h=>?_;cbv;refine ah h fun y4 nI h=>⟨_,_,_,us hc (uj hI hM nI),?_⟩;cbv;refine ah h fun y5 HB h=>⟨_,fun hp=>us hc (vw hI hM (aE HB hp.1)),?_⟩;cbv;refine si h (fun h=>by cbv;cases h;exact fin) fun h=>?_;cbv;refine ah h fun y6 yW h=>⟨_,_,_,us hc (oH hI hM yW),?_⟩;cbv;refine si h (fun h=>by cbv;cases h;exact fin) fun h=>?_;cbv;refine ah h fun y7 HA h=>⟨_,fun hp=>us hc (vv hI hM (aE HA hp.1)),?_⟩;cbv;refine si h (fun h=>by cbv;cases h;exact fin) fun h=>?_;cbv;refine ah h fun y8 OT h=>⟨_,_,_,us hc (oF hI hM OT),?_⟩;cbv;exact si h (fun h=>by cbv;cases h;exact fin) fun h=>by cbv;cases h;exact fin
 include hI hM
theorem db{a0:ai}{v:Int}(h:dL I M n a0=some v):
  cj 49 [(.agg (bd M r a0))] (vi v) g nx:=by
 refine Aq func49 c49 r afR aj8 [] 95 ntmps49 [.tmp 2] hI (bF.cons (GM r) (vK PP im)) 8 fun call hc=>?_;cbv;refine letE h fun n1 dw h=>⟨_,an hI hM dw,?_⟩;cbv;refine⟨_,an hI hM dw,?_⟩;cbv;refine si h (fun h=>by cbv;cases h;exact fin) fun h=>?_;cbv;refine⟨_,an hI hM dw,?_⟩;cbv;refine lp h (fun z2=>[(27,(vi z2))]) (fun z2=>[]) fun kS m1 aZ z2 h=>?_;dsimp only[oX]at h;cbv;refine si h (fun h=>?_) fun h=>?_
 ·cbv;refine ah h fun x3 lG h=>⟨_,aq hM lG rfl,?_⟩;cbv;refine ah h fun y4 nI h=>⟨_,_,_,us hc (HW hI hM nI),?_⟩;cbv;refine si h (fun h=>by cbv;cases h;exact fin) fun h=>?_;cbv;exact b8 (aZ _ _ h)
 cbv;refine letE h fun n6 Q5 h=>⟨_,an hI hM Q5,?_⟩;cbv;refine lp h (fun z7=>[(40,(vi z7))]) (fun z7=>[]) fun Dc m2 dm z7 h=>?_;dsimp only[oW]at h;cbv;refine si h (fun h=>?_) fun h=>?_
 ·cbv;refine ah h fun x8 Q3 h=>⟨_,aq hM Q3 rfl,?_⟩;cbv;refine ah h fun j9 hj h=>?_;refine bk none [(51,(vb j9)),(6,.any),(7,.any)] [] g nx ?_ ?_
  ·replace h:=hj;cbv;refine⟨?_,?_⟩
   ·refine⟨?_,trivial⟩;refine ah h fun wY tV h=>⟨_,_,_,us hc (fS hI hM tV),?_⟩;cbv;cases h;first|exact Or.inl rfl|exact bw
   refine⟨?_,trivial⟩;refine⟨?_,trivial⟩;refine⟨?_,trivial⟩;refine ah h fun wY tV h=>⟨_,_,_,us hc (fS hI hM tV),?_⟩;cbv;cases h;first|exact Or.inl rfl|exact bw
  clear hj;cbv;refine si h (fun h=>by cbv;cases h;exact fin) fun h=>?_;cbv;exact b8 (dm _ _ h)
 cbv;refine letE h fun Y5 VW h=>⟨_,an hI hM VW,?_⟩;cbv;refine lp h (fun pa=>[(56,(vi pa))]) (fun pa=>[]) fun QA m3 kI pa h=>?_;dsimp only[oV]at h;cbv;refine si h (fun h=>?_) fun h=>by cbv;cases h;exact fin
 cbv;refine ah h fun wN FT h=>⟨_,aq hM FT rfl,?_⟩;cbv;refine letE h fun n15 aht h=>⟨_,an hI hM aht,?_⟩;cbv;refine lp h (fun lD=>[(57,.any),(63,(vi lD))]) (fun lD=>[]) fun YG m4 sW lD h=>?_;dsimp only[oU]at h;cbv;refine si h (fun h=>?_) fun h=>?_
 ·as_aux_lemma=>
   cbv;refine ah h fun sQ Co h=>⟨_,aq hM Co rfl,?_⟩;cbv;refine letE h fun Uc VR h=>⟨_,an hI hM VR,?_⟩;cbv;refine lp h (fun fh=>[(70,(vi fh))]) (fun fh=>[]) fun YF m5 sV fh h=>?_;dsimp only[oT]at h;cbv;refine si h (fun h=>?_) fun h=>?_
   ·cbv;refine ah h fun R7 OV h=>⟨_,_,_,us hc (Qg hI hM OV),?_⟩;cbv;refine si h (fun h=>by cbv;cases h;exact fin) fun h=>?_;cbv;exact b8 (sV _ _ h)
   cbv;refine letE h fun WX SV h=>⟨_,an hI hM SV,?_⟩;cbv;refine si h (fun h=>by cbv;cases h;exact fin) fun h=>?_;cbv;exact b8 (sW _ _ h)
 cbv;exact b8 (kI _ _ h)
 include hI hM
 include hI hM
theorem aY{Ay:ByteArray}{Ax:Int}{Hf:List aD}{Aw:Int}{pM:List Int}{a1:List Int}{v:List Int}(h:bM I M n Ay Ax Hf Aw pM a1=some v):
  cj 55 [(.aX rl [(vs Ay),(vi Ax),(.sl r (M.map (bu M r) Hf)),(vi Aw),(.sl r (M.map ax pM)),(.v .nilFunc)] 0),(.sl p (M.map ax a1))] (.sl r (M.map ax v)) g nx:=by
 refine cK func55 c55 r JH K4 [] 26 ntmps55 [.tmp 4] hI fun call hc=>?_;cbv;refine letE h fun n1 dw h=>⟨_,an hI hM dw,?_⟩;cbv;refine lp h (fun(z2,l3)=>[(5,(.gs r (.l 23) (M.map ax l3))),(10,(vi z2))]) (fun _=>[]) fun kS m1 aZ st h=>?_;obtain⟨z2,l3⟩:=st;dsimp only[dF]at h;cbv;refine si h (fun h=>?_) fun h=>by cbv;cases h;exact fin
 cbv;refine ah h fun x4 ur h=>⟨_,aq hM ur rfl,?_⟩;cbv;refine ah h fun x5 sa h=>⟨_,aq hM sa rfl,?_⟩;cbv;refine⟨_,cq (enc:=ax) (x:=x5) hM (ao _) rfl,?_⟩;cbv;refine ah h fun l6 SY h=>⟨_,ay (enc:=ax) hI hM SY (fun _=>rfl) rfl (fun _=>rfl),?_⟩;cbv;exact b8 (aZ _ _ h)
 include hI hM
end Ab
