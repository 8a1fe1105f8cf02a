/- PassesPuts holds of every core: no condition. -/
import Derived.Test.YtcdinjhcnhepeaaGreatDoorP05
import Derived.Test.YtcdinjhcnhepeaaGreatDoorP17
import Derived.Test.YtcdinjhcnhepeaaGreatDoorP03
namespace Go.Proofs.YtcdinjhcnhepeaaGreatDoor
theorem passesPuts_holds : Rows.PassesPutsCardSaid := Ab.card4 (Ab.lawC_of fun c => (Ab.ev_law19_PassesPuts rfl rfl (Ab.puts_val c)).2)
end Go.Proofs.YtcdinjhcnhepeaaGreatDoor
