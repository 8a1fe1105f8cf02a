/- PassesAll holds of all pairs of cores: no condition. -/
import Derived.Test.YtcdinjhcnhepeaaGreatDoorA05
import Derived.Test.YtcdinjhcnhepeaaGreatDoorA14
import Derived.Test.YtcdinjhcnhepeaaGreatDoorA03
namespace Go.Proofs.YtcdinjhcnhepeaaGreatDoor
theorem passesAll_holds : Rows.PassesAllCardSaid := Ab.card5 (Ab.lawC2_of fun c d => (Ab.ev_law19_PassesAll rfl rfl (Ab.all_val c d)).2)
end Go.Proofs.YtcdinjhcnhepeaaGreatDoor
