/- PassesBlocks holds of all cores and names (no condition): a part of the proof: an abstract interpreter of the code that is proved sound, models of the functions, and laws of these models. -/
import Derived.Test.YtcdinjhcnhepeaaGreatDoorB03
import Derived.Test.YtcdinjhcnhepeaaGreatDoorB04
import Derived.Test.YtcdinjhcnhepeaaGreatDoorB06
set_option linter.unusedVariables false
set_option linter.unusedSimpArgs false
set_option linter.unusedSectionVars false
namespace Ab
open Go Go.Proofs.Tryz
set_option maxHeartbeats 100000000
set_option maxRecDepth 100000
variable{I:Pr}(hI:I=al){M:Md}(hM:M= .al){n nx r s p q u rl:Nat}{g:Nat→Option Ob}
 include hI hM
theorem rI{a0:List aH}{v:Int}(h:mR I M n a0=some v):
  cv 94 [(.sl r (M.map (bB M r) a0)),(.fn (.func 152) [(.aR r [(.fn (.func 120) [])] 0)])] (vi v) g nx:=by
 refine cS func94 c94 r T8 XU [] 19 ntmps94 [.tmp 4] hI fun call hc=>?_;cbv;refine letE h fun n1 dJ h=>⟨_,an hI hM dJ,?_⟩;cbv;refine lp h (fun z2=>[(8,(vi z2))]) (fun z2=>[]) fun mK m1 aW z2 h=>?_;dsimp only[lC]at h;cbv;refine si h (fun h=>?_) fun h=>by cbv;cases h;exact fin
 cbv;refine ag h fun x3 me h=>⟨_,ao hM me rfl,?_⟩;cbv;refine ag h fun y4 oc h=>⟨_,_,_,us hc (tR hI hM oc),?_⟩;cbv;refine si h (fun h=>by cbv;cases h;exact fin) fun h=>?_;cbv;exact bY (aW _ _ h)
end Ab
