/- PassesDrops holds of every core: no condition. -/
import Derived.Test.YtcdinjhcnhepeaaGreatDoorD05
import Derived.Test.YtcdinjhcnhepeaaGreatDoorD16
import Derived.Test.YtcdinjhcnhepeaaGreatDoorD03
namespace Go.Proofs.YtcdinjhcnhepeaaGreatDoor
theorem passesDrops_holds : Rows.PassesDropsCardSaid := Ab.card (Ab.lawC_of fun c => (Ab.ev_law19_PassesDrops rfl rfl (Ab.drops_val c)).2)
end Go.Proofs.YtcdinjhcnhepeaaGreatDoor
