/- PassesBlocks holds of all cores and all names: no condition. -/
import Derived.Test.YtcdinjhcnhepeaaGreatDoorB07
import Derived.Test.YtcdinjhcnhepeaaGreatDoorB24
import Derived.Test.YtcdinjhcnhepeaaGreatDoorB04
namespace Go.Proofs.YtcdinjhcnhepeaaGreatDoor
theorem passesBlocks_holds : Rows.PassesBlocksCardSaid := Ab.card6 (Ab.lawCN_of fun c b => (Ab.ev_law19_PassesBlocks rfl rfl (Ab.blocks_val c b)).2)
end Go.Proofs.YtcdinjhcnhepeaaGreatDoor
