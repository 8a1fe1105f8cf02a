/- PassesBlocks holds of all cores and names (no condition): a part of the proof: an abstract interpreter of the code that is proved sound, models of the functions, and laws of these models. -/
import Derived.Test.YtcdinjhcnhepeaaGreatDoorB03
import Derived.Test.YtcdinjhcnhepeaaGreatDoorB04
import Derived.Test.YtcdinjhcnhepeaaGreatDoorB05
set_option linter.unusedVariables false
set_option linter.unusedSimpArgs false
set_option linter.unusedSectionVars false
namespace Ab
open Go Go.Proofs.Tryz
set_option maxHeartbeats 100000000
set_option maxRecDepth 100000
variable{I:Pr}(hI:I=al){M:Md}(hM:M= .al){n nx r s p q u rl:Nat}{g:Nat→Option Ob}
 include hI hM
theorem Gp{a0:aH}{a1:aH}{v:Bool}(h:Dj I M n a0 a1=some v):
  cv 96 [(.agg (bB M r a0)),(.agg (bB M r a1))] (vb v) g nx:=by
 refine cS func96 c96 r aeN ajb [] 31 ntmps96 [.tmp 4] hI fun call hc=>?_;cbv;refine ag h fun y1 c9 h=>⟨_,fun hp=>us hc (cL hI hM (aD c9 hp.1)),?_⟩;cbv;cbv;cases h;exact fin
end Ab
