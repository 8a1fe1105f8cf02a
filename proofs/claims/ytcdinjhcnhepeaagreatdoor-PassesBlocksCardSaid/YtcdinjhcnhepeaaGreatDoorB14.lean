/- PassesBlocks holds of all cores and names (no condition): a part of the proof: an abstract interpreter of the code that is proved sound, models of the functions, and laws of these models. -/
import Derived.Test.YtcdinjhcnhepeaaGreatDoorB03
import Derived.Test.YtcdinjhcnhepeaaGreatDoorB04
import Derived.Test.YtcdinjhcnhepeaaGreatDoorB06
set_option linter.unusedVariables false
set_option linter.unusedSimpArgs false
set_option linter.unusedSectionVars false
namespace Ab
open Go Go.Proofs.Tryz
set_option maxHeartbeats 100000000
set_option maxRecDepth 100000
variable{I:Pr}(hI:I=al){M:Md}(hM:M= .al){n nx r s p q u rl:Nat}{g:Nat→Option Ob}
 include hI hM
theorem Kn{a0:af}{a1:Int}{a2:Int}{v:(List Bool)×Int}(h:IA I M n a0 a1 a2=some v):
  cv 52 [(.agg (aZ M r a0)),(vi a1),(vi a2)] (.gw [(.sl r (M.map bV v.1)),(vi v.2)]) g nx:=by
 refine yi func52 c52 r afj ajH [] 71 ntmps52 [.tmp 6,.tmp 7] hI (bp.cons (XH r) (bp.cons (XL r) (sX PP gL))) 8 fun call hc=>?_;cbv;refine ag h fun y1 c9 h=>⟨_,_,_,us hc (Gn hI hM c9),?_⟩;cbv;refine si h (fun h=>by cbv;cases h;exact fin) fun h=>?_;cbv;refine letE h fun n2 oC h=>⟨_,an hI hM oC,?_⟩;cbv;refine ag h fun l3 To h=>⟨_,_,gf (enc:=bV) hI hM To (by decide) rfl,?_⟩;cbv;refine ag h fun k4 qk4 h=>⟨_,gG hI hM qk4,?_⟩;cbv;refine ag h fun x5 rC h=>?_;refine ag h fun l6 Vv h=>⟨_,mU hI hM rC Vv (by decide) rfl rfl,?_⟩;cbv;intro l;cbv;refine⟨_,an hI hM oC,?_⟩;cbv;refine lp h (fun(l7,z8)=>[(3,(vi z8))]) (fun(l7,z8)=>[(28,.arr 1 (M.map bV l7))]) fun mK m1 aW st h=>?_;obtain⟨l7,z8⟩:=st;dsimp only[Di]at h;cbv;refine si h (fun h=>?_) fun h=>?_
 ·as_aux_lemma=>
   cbv;refine ag h fun x9 qx9 h=>⟨_,ao hM qx9 rfl,?_⟩;cbv;(try(refine⟨⟨rfl,rfl,rfl⟩,?_⟩;cbv));(try(refine⟨rfl,?_⟩;cbv));refine ag h fun Tv amA h=>?_;refine ag h fun Ac DC h=>?_;refine ag h fun gJ ahz h=>?_;apply Exists.intro;refine⟨?_,_,rfl,?_⟩
   ·cbv;(repeat' first|exact .inl rfl|exact trivial|(refine⟨_,gG hI hM amA,?_⟩;cbv)|(refine⟨_,_,rfl,bA hM DC,rfl,?_⟩;cbv)|(refine⟨_,mU hI hM DC ahz (by decide) rfl rfl,?_⟩;cbv)|apply And.intro);all_goals exact bn
   cbv;refine⟨_,gG hI hM amA,?_⟩;cbv;refine ag h fun GU JF h=>⟨_,_,rfl,bA hM JF,rfl,?_⟩;cbv;refine si h (fun h=>?_) fun h=>?_
   ·cbv;refine letE h fun DG Fx h=>⟨_,an hI hM Fx,?_⟩;cbv;refine lp h (fun(vN,kr)=>[(62,(vi kr))]) (fun(vN,kr)=>[(28,.arr 1 (M.map bV vN))]) fun D0 m2 eM st h=>?_;obtain⟨vN,kr⟩:=st;dsimp only[Dh]at h;cbv;refine si h (fun h=>?_) fun h=>?_
    ·cbv;refine ag h fun pA zb h=>⟨_,ao hM zb rfl,?_⟩;cbv;refine ag h fun WT DD h=>⟨_,gG hI hM DD,?_⟩;cbv;refine ag h fun KP Ap h=>?_;refine ag h fun Qw JN h=>⟨_,mU hI hM Ap JN (by decide) rfl rfl,?_⟩;cbv;exact bY (eM _ _ h)
    cbv;(try(refine⟨rfl,?_⟩;cbv));refine lW hI ?_;cbv;exact bY (aW _ _ h)
   cbv;(try(refine⟨rfl,?_⟩;cbv));refine lW hI ?_;cbv;exact bY (aW _ _ h)
 cbv;try(refine⟨rfl,?_⟩;cbv)
 refine ag h fun u25 Hd h=>?_;obtain rfl:=oJ h;cbv;all_goals(repeat' apply And.intro)
 all_goals first|trivial|rfl|exact(aJ hM)|exact eF hM Hd
end Ab
