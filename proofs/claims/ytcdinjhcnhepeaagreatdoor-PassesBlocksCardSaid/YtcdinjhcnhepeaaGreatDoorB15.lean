/- PassesBlocks holds of all cores and names (no condition): a part of the proof: an abstract interpreter of the code that is proved sound, models of the functions, and laws of these models. -/
import Derived.Test.YtcdinjhcnhepeaaGreatDoorB03
import Derived.Test.YtcdinjhcnhepeaaGreatDoorB04
import Derived.Test.YtcdinjhcnhepeaaGreatDoorB06
set_option linter.unusedVariables false
set_option linter.unusedSimpArgs false
set_option linter.unusedSectionVars false
namespace Ab
open Go Go.Proofs.Tryz
set_option maxHeartbeats 100000000
set_option maxRecDepth 100000
variable{I:Pr}(hI:I=al){M:Md}(hM:M= .al){n nx r s p q u rl:Nat}{g:Nat→Option Ob}
 include hI hM
theorem sn{a0:af}{v:List Int}(h:gV I M n a0=some v):
  cv 85 [(.agg (aZ M r a0))] (.ar 12 1 (M.map aq v)) g nx:=by
 refine cS func85 c85 r aeV ajj [1,3] 30 ntmps85 [.cell 2 110] hI fun call hc=>?_;cbv;refine letE h fun l1 OF h=>⟨_,⟨rfl,gA (enc:=aq) hI hM OF rfl⟩,?_⟩;cbv;refine letE h fun l2 R7 h=>⟨_,⟨rfl,gA (enc:=aq) hI hM R7 rfl⟩,?_⟩;cbv;refine lp h (fun l3=>[]) (fun l3=>[(3,.arr 1 (M.map aq l3))]) fun mK m1 aW l3 h=>?_;dsimp only[dT]at h;cbv;refine letE h fun l4 M9 h=>⟨_,⟨rfl,gA (enc:=aq) hI hM M9 rfl⟩,?_⟩;cbv;refine letE h fun n5 qn5 h=>⟨_,an hI hM qn5,?_⟩;cbv;refine lp h (fun(l6,z7)=>[(10,(vi z7))]) (fun(l6,z7)=>[(4,.arr 1 (M.map aq l6))]) fun D0 m2 eM st h=>?_;obtain⟨l6,z7⟩:=st;dsimp only[dS]at h;cbv;refine si h (fun h=>?_) fun h=>?_
 ·cbv;refine ag h fun x8 qx8 h=>⟨_,ao hM qx8 rfl,?_⟩;cbv;refine ag h fun l9 ql9 h=>?_;refine ag h fun yU wq h=>?_;refine ag h fun k11 aat h=>?_;refine ag h fun v3 vL h=>?_;refine ag h fun zW asj h=>?_;apply Exists.intro;refine⟨?_,_,rfl,?_⟩
  ·cbv;(repeat' first|exact .inl rfl|exact trivial|(refine⟨_,Kw hI hM ql9 (fun _=>rfl),?_⟩;cbv)|(refine⟨fun _=>rfl,(vi yU),g,nx,fun ρ=>by cbv;exact us hc (pF hI hM wq),?_⟩;cbv)|((first|refine⟨_,⟨rfl,rfl,aK hI aat⟩,?_⟩|refine⟨_,aK hI aat,?_⟩);cbv)|(refine⟨_,mU hI hM vL asj (by decide) rfl rfl,?_⟩;cbv)|apply And.intro);all_goals exact bn
  cbv;exact bY (eM _ _ h)
 cbv;refine ag h fun u16 Oj h=>?_
 (first|refine⟨⟨rfl,aS hI hM Oj,rfl⟩,?_⟩|refine⟨⟨aS hI hM Oj,trivial⟩,?_⟩|refine⟨aS hI hM Oj,?_⟩)
 cbv;refine ag h fun u17 agF h=>?_
 (first|refine⟨⟨rfl,aS hI hM agF,rfl⟩,?_⟩|refine⟨⟨aS hI hM agF,trivial⟩,?_⟩|refine⟨aS hI hM agF,?_⟩)
 cbv;refine ag h fun u18 arX h=>?_;refine ag h fun u19 Oi h=>?_;refine letE h fun b20 asu h=>⟨_,Pp hM arX Oi asu rfl,?_⟩;cbv;refine si h (fun h=>?_) fun h=>?_
 ·cbv;refine ag h fun u21 Oh h=>?_
  (first|refine⟨⟨rfl,aS hI hM Oh,rfl⟩,?_⟩|refine⟨⟨aS hI hM Oh,trivial⟩,?_⟩|refine⟨aS hI hM Oh,?_⟩)
  cbv;refine ag h fun Zg Aq h=>?_
  (first|refine⟨⟨rfl,rfl,rfl,aS hI hM Aq,rfl,(by have hq:=dq (enc:=aq) hM (fun _=>rfl) l3;rw[ep.eq_def]at hq;exact hq)⟩,?_⟩|refine⟨⟨aS hI hM Aq,(by have hq:=dq (enc:=aq) hM (fun _=>rfl) l3;rw[ep.eq_def]at hq;exact hq)⟩,?_⟩)
  cbv;refine ag h fun T5 tf h=>?_;obtain rfl:=oJ h;cbv;all_goals(repeat' apply And.intro)
  all_goals first|trivial|rfl|exact(aJ hM)|exact aS hI hM tf
 cbv;refine ag h fun u24 zc h=>?_
 (first|refine⟨⟨rfl,aS hI hM zc,rfl⟩,?_⟩|refine⟨⟨aS hI hM zc,trivial⟩,?_⟩|refine⟨aS hI hM zc,?_⟩)
 cbv;refine ag h fun u25 Hd h=>?_
 (first|refine⟨⟨rfl,rfl,rfl,aS hI hM Hd,rfl,(by have hq:=dq (enc:=aq) hM (fun _=>rfl) l6;rw[ep.eq_def]at hq;exact hq)⟩,?_⟩|refine⟨⟨aS hI hM Hd,(by have hq:=dq (enc:=aq) hM (fun _=>rfl) l6;rw[ep.eq_def]at hq;exact hq)⟩,?_⟩)
 cbv;exact bY (aW _ _ h)
end Ab
