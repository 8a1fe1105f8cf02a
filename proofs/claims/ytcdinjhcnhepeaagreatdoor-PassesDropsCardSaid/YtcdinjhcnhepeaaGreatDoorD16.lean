/- PassesDrops holds of every core (no condition): a part of the proof: an abstract interpreter of the code that is proved sound, models of the functions, and laws of these models. -/
import Derived.Test.YtcdinjhcnhepeaaGreatDoorD02
import Derived.Test.YtcdinjhcnhepeaaGreatDoorD03
import Derived.Test.YtcdinjhcnhepeaaGreatDoorD14
import Derived.Test.YtcdinjhcnhepeaaGreatDoorD15
set_option linter.unusedVariables false
set_option linter.unusedSimpArgs false
namespace Ab
open Go Go.Proofs.Tryz
set_option maxHeartbeats 100000000
set_option maxRecDepth 100000
variable{I:Pr}(hI:I=al){M:Md}(hM:M= .al){n nx r s p q u rl:Nat}{g:Nat→Option Ob}
 include hI hM
theorem ev_law19_PassesDrops{a0:ah}{v:Bool}(h:mC I M n a0=some v):
  bO 3 [(.agg (ba M 0 a0))] (vb v) g nx:=by
 refine cr func3 c3 0 ahO akx [] 13 ntmps3 [.tmp 2] hI fun call hc=>?_
 cbv
 refine ab h fun y1 cN h=>⟨_,_,_,us hc (IC hI hM cN),?_⟩;cbv
 refine si h (fun h=>?_) fun h=>?_
 ·cbv
  refine ab h fun y2 rT h=>⟨_,_,_,us hc (wa hI hM rT),?_⟩;cbv
  cbv;cases h;exact fin
 cbv
 refine⟨_,blL (by rfl),?_⟩;cbv
 refine⟨_,gH (enc:=an) (l:=[1,2,5]) hM ⟨⟨(af _),rfl⟩,⟨(af _),rfl⟩,⟨(af _),rfl⟩,trivial⟩,?_⟩;cbv
 refine ab h fun y3 HJ h=>⟨_,_,_,us hc (v9 hI hM HJ),?_⟩;cbv
 refine ab h fun y4 lb h=>⟨_,fun hp=>us hc (wa hI hM (aw lb hp.1)),?_⟩;cbv
 cbv;cases h;exact fin
end Ab
