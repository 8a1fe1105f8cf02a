/- PassesBlocks holds of all cores and names (no condition): a part of the proof: an abstract interpreter of the code that is proved sound, models of the functions, and laws of these models. -/
import Derived.Test.YtcdinjhcnhepeaaGreatDoorB02
import Derived.Test.YtcdinjhcnhepeaaGreatDoorB03
set_option linter.unusedVariables false
set_option linter.unusedSimpArgs false
set_option linter.unusedSectionVars false
namespace Ab
open Go Go.Proofs.Tryz
set_option maxHeartbeats 100000000
set_option maxRecDepth 100000
noncomputable def c8:Code:=f8.body.get (by kernel_rfl)
def HD:Nat→Tree
 |9=> .one 0 (.one 1 (.aj 2 (.aj 3 (.aj 4 (.aj 5 (.aj 6 (.aj 7 (.aj 8 (.one 9 (.aj 10 .done .nil)) .nil) .nil) .nil) .nil) .nil) (.aj 4 (.aj 3 (.aj 5 (.aj 6 (.aj 7 (.aj 8 (.one 9 (.aj 10 .done .nil)) .nil) .nil) .nil) .nil) .nil) .nil)) (.aj 4 (.aj 2 (.aj 3 (.aj 5 (.aj 6 (.aj 7 (.aj 8 (.one 9 (.aj 10 .done .nil)) .nil) .nil) .nil) .nil) .nil) .nil) .nil)))
 |11=> .one 0 (.one 1 (.aj 2 (.aj 3 (.aj 4 (.aj 5 (.aj 6 (.aj 7 (.one 8 (.aj 9 .done .nil)) .nil) .nil) .nil) .nil) .nil) (.aj 3 (.aj 2 (.aj 4 (.aj 5 (.aj 6 (.aj 7 (.one 8 (.aj 9 .done .nil)) .nil) .nil) .nil) .nil) .nil) .nil)))
 |12=> .aj 0 (.aj 1 (.one 2 (.one 3 (.aj 4 (.aj 5 (.aj 6 (.aj 7 (.aj 8 (.aj 9 (.aj 10 (.aj 11 .done .nil) .nil) (.aj 10 (.aj 9 (.aj 11 .done .nil) .nil) .nil)) (.aj 10 (.aj 8 (.aj 9 (.aj 11 .done .nil) .nil) .nil) .nil)) (.aj 10 (.aj 7 (.aj 8 (.aj 9 (.aj 11 .done .nil) .nil) .nil) .nil) .nil)) (.aj 10 (.aj 6 (.aj 7 (.aj 8 (.aj 9 (.aj 11 .done .nil) .nil) .nil) .nil) .nil) .nil)) (.aj 10 (.aj 5 (.aj 6 (.aj 7 (.aj 8 (.aj 9 (.aj 11 .done .nil) .nil) .nil) .nil) .nil) .nil) .nil)) (.aj 10 (.aj 4 (.aj 5 (.aj 6 (.aj 7 (.aj 8 (.aj 9 (.aj 11 .done .nil) .nil) .nil) .nil) .nil) .nil) .nil) .nil)))) (.aj 4 (.aj 1 (.one 2 (.one 3 (.aj 5 (.aj 6 (.aj 7 (.aj 8 (.aj 9 (.aj 10 (.aj 11 .done .nil) .nil) (.aj 10 (.aj 9 (.aj 11 .done .nil) .nil) .nil)) (.aj 10 (.aj 8 (.aj 9 (.aj 11 .done .nil) .nil) .nil) .nil)) (.aj 10 (.aj 7 (.aj 8 (.aj 9 (.aj 11 .done .nil) .nil) .nil) .nil) .nil)) (.aj 10 (.aj 6 (.aj 7 (.aj 8 (.aj 9 (.aj 11 .done .nil) .nil) .nil) .nil) .nil) .nil)) (.aj 10 (.aj 5 (.aj 6 (.aj 7 (.aj 8 (.aj 9 (.aj 11 .done .nil) .nil) .nil) .nil) .nil) .nil) .nil)))) (.aj 5 (.aj 1 (.one 2 (.one 3 (.aj 6 (.aj 7 (.aj 8 (.aj 9 (.aj 10 (.aj 11 .done .nil) .nil) (.aj 10 (.aj 9 (.aj 11 .done .nil) .nil) .nil)) (.aj 10 (.aj 8 (.aj 9 (.aj 11 .done .nil) .nil) .nil) .nil)) (.aj 10 (.aj 7 (.aj 8 (.aj 9 (.aj 11 .done .nil) .nil) .nil) .nil) .nil)) (.aj 10 (.aj 6 (.aj 7 (.aj 8 (.aj 9 (.aj 11 .done .nil) .nil) .nil) .nil) .nil) .nil)))) (.aj 6 (.aj 1 (.one 2 (.one 3 (.aj 7 (.aj 8 (.aj 9 (.aj 10 (.aj 11 .done .nil) .nil) (.aj 10 (.aj 9 (.aj 11 .done .nil) .nil) .nil)) (.aj 10 (.aj 8 (.aj 9 (.aj 11 .done .nil) .nil) .nil) .nil)) (.aj 10 (.aj 7 (.aj 8 (.aj 9 (.aj 11 .done .nil) .nil) .nil) .nil) .nil)))) (.aj 7 (.aj 1 (.one 2 (.one 3 (.aj 8 (.aj 9 (.aj 10 (.aj 11 .done .nil) .nil) (.aj 10 (.aj 9 (.aj 11 .done .nil) .nil) .nil)) (.aj 10 (.aj 8 (.aj 9 (.aj 11 .done .nil) .nil) .nil) .nil)))) (.aj 10 (.aj 1 (.one 2 (.one 3 (.aj 8 (.aj 9 (.aj 11 .done .nil) .nil) .nil))) .nil) .nil)) (.aj 10 (.aj 1 (.one 2 (.one 3 (.aj 7 (.aj 8 (.aj 9 (.aj 11 .done .nil) .nil) .nil) .nil))) (.aj 7 (.aj 1 (.one 2 (.one 3 (.aj 8 (.aj 9 (.aj 11 .done .nil) .nil) .nil))) .nil) .nil)) .nil))) (.aj 10 (.aj 1 (.one 2 (.one 3 (.aj 6 (.aj 7 (.aj 8 (.aj 9 (.aj 11 .done .nil) .nil) .nil) .nil) .nil))) (.aj 6 (.aj 1 (.one 2 (.one 3 (.aj 7 (.aj 8 (.aj 9 (.aj 11 .done .nil) .nil) .nil) .nil))) (.aj 7 (.aj 1 (.one 2 (.one 3 (.aj 8 (.aj 9 (.aj 11 .done .nil) .nil) .nil))) .nil) .nil)) .nil)) .nil))) (.aj 10 (.aj 1 (.one 2 (.one 3 (.aj 5 (.aj 6 (.aj 7 (.aj 8 (.aj 9 (.aj 11 .done .nil) .nil) .nil) .nil) .nil) .nil))) (.aj 5 (.aj 1 (.one 2 (.one 3 (.aj 6 (.aj 7 (.aj 8 (.aj 9 (.aj 11 .done .nil) .nil) .nil) .nil) .nil))) (.aj 6 (.aj 1 (.one 2 (.one 3 (.aj 7 (.aj 8 (.aj 9 (.aj 11 .done .nil) .nil) .nil) .nil))) (.aj 7 (.aj 1 (.one 2 (.one 3 (.aj 8 (.aj 9 (.aj 11 .done .nil) .nil) .nil))) .nil) .nil)) .nil)) .nil)) .nil))) (.aj 10 (.aj 1 (.one 2 (.one 3 (.aj 4 (.aj 5 (.aj 6 (.aj 7 (.aj 8 (.aj 9 (.aj 11 .done .nil) .nil) .nil) .nil) .nil) .nil) .nil))) (.aj 4 (.aj 1 (.one 2 (.one 3 (.aj 5 (.aj 6 (.aj 7 (.aj 8 (.aj 9 (.aj 11 .done .nil) .nil) .nil) .nil) .nil) .nil))) (.aj 5 (.aj 1 (.one 2 (.one 3 (.aj 6 (.aj 7 (.aj 8 (.aj 9 (.aj 11 .done .nil) .nil) .nil) .nil) .nil))) (.aj 6 (.aj 1 (.one 2 (.one 3 (.aj 7 (.aj 8 (.aj 9 (.aj 11 .done .nil) .nil) .nil) .nil))) (.aj 7 (.aj 1 (.one 2 (.one 3 (.aj 8 (.aj 9 (.aj 11 .done .nil) .nil) .nil))) .nil) .nil)) .nil)) .nil)) .nil)) .nil))) (.aj 10 (.aj 0 (.aj 1 (.one 2 (.one 3 (.aj 4 (.aj 5 (.aj 6 (.aj 7 (.aj 8 (.aj 9 (.aj 11 .done .nil) .nil) .nil) .nil) .nil) .nil) .nil))) (.aj 4 (.aj 1 (.one 2 (.one 3 (.aj 5 (.aj 6 (.aj 7 (.aj 8 (.aj 9 (.aj 11 .done .nil) .nil) .nil) .nil) .nil) .nil))) (.aj 5 (.aj 1 (.one 2 (.one 3 (.aj 6 (.aj 7 (.aj 8 (.aj 9 (.aj 11 .done .nil) .nil) .nil) .nil) .nil))) (.aj 6 (.aj 1 (.one 2 (.one 3 (.aj 7 (.aj 8 (.aj 9 (.aj 11 .done .nil) .nil) .nil) .nil))) (.aj 7 (.aj 1 (.one 2 (.one 3 (.aj 8 (.aj 9 (.aj 11 .done .nil) .nil) .nil))) .nil) .nil)) .nil)) .nil)) .nil)) .nil) .nil)
 |13=>on (rg 0 27) (.aj 27 (.aj 28 (.aj 29 (on [30,31,32,33] (.aj 34 (on [35,36,37,38] (.aj 39 (on (rg 40 8) (.aj 48 (on [49,50,51] (.aj 52 (.aj 53 (.one 54 (.one 55 (.aj 56 (.aj 57 (.aj 58 (.one 59 (.one 60 (.aj 61 (.aj 62 (.aj 63 (.one 64 (.one 65 .done)) .nil) .nil) .nil))) .nil) .nil) (.aj 57 (.aj 56 (.aj 58 (.one 59 (.one 60 (.aj 61 (.aj 62 (.aj 63 (.one 64 (.one 65 .done)) .nil) .nil) .nil))) .nil) (.aj 58 (.one 59 (.one 60 (.aj 56 (.aj 61 (.aj 62 (.aj 63 (.one 64 (.one 65 .done)) .nil) .nil) .nil) (.aj 61 (.aj 56 (.aj 62 (.aj 63 (.one 64 (.one 65 .done)) .nil) .nil) (.aj 62 (.one 56 (.aj 63 (.one 64 (.one 65 .done)) .nil)) .nil)) .nil)))) .nil)) .nil)))) .nil) .nil)) .nil)) .nil)) .nil)) .nil) .nil) (.aj 28 (.one 27 (.aj 29 (on [30,31,32,33] (.aj 34 (on [35,36,37,38] (.aj 39 (on (rg 40 8) (.aj 48 (on [49,50,51] (.aj 52 (.aj 53 (.one 54 (.one 55 (.aj 56 (.aj 57 (.aj 58 (.one 59 (.one 60 (.aj 61 (.aj 62 (.aj 63 (.one 64 (.one 65 .done)) .nil) .nil) .nil))) .nil) .nil) (.aj 57 (.aj 56 (.aj 58 (.one 59 (.one 60 (.aj 61 (.aj 62 (.aj 63 (.one 64 (.one 65 .done)) .nil) .nil) .nil))) .nil) (.aj 58 (.one 59 (.one 60 (.aj 56 (.aj 61 (.aj 62 (.aj 63 (.one 64 (.one 65 .done)) .nil) .nil) .nil) (.aj 61 (.aj 56 (.aj 62 (.aj 63 (.one 64 (.one 65 .done)) .nil) .nil) (.aj 62 (.one 56 (.aj 63 (.one 64 (.one 65 .done)) .nil)) .nil)) .nil)))) .nil)) .nil)))) .nil) .nil)) .nil)) .nil)) .nil)) .nil)) .nil))
 |_=> .done
def aoP:Nat→List Nat
 |0=>[0]
 |1=>rg 19 5
 |2=>rg 24 5
 |3=>rg 29 6
 |4=>rg 35 5
 |5=>[8]++rg 40 5
 |6=>rg 45 5
 |7=>rg 50 5
 |8=>[55,56,57]
 |9=>rg 58 10
 |10=>[68,69,70]
 |11=>rg 71 9
 |12=>rg 80 10
 |13=>rg 1 7++rg 9 10++rg 90 65
 |_=>[]
theorem au3:S1 gL HD c8 0=true:=by kernel_rfl
theorem au2:S1 gL HD c8 1=true:=by kernel_rfl
theorem au1:S1 gL HD c8 2=true:=by kernel_rfl
theorem au0:S1 gL HD c8 3=true:=by kernel_rfl
theorem d8_:cB gL HD c8=true:=XS 4 (by kernel_rfl) (by kernel_rfl) fun k h=>match k,h with
 |0,_=>au3
 |1,_=>au2
 |2,_=>au1
 |3,_=>au0
 |k+4,h=>absurd h (by omega)
end Ab
