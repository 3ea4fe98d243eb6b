/- The law InventoryBundles returns true and leaves its arguments as they were, for all arguments of bulk at most 1048576 (the card of its Upto form). -/
import Derived.Test.YtnpknmmlpjnpeaaDoorCBundles
namespace Go.Proofs.YtnpknmmlpjnpeaaDoor
theorem bundles_holds : Rows.InventoryBundlesUptoCardSaid := Go.AM.InvBundles.cardUpto
end Go.Proofs.YtnpknmmlpjnpeaaDoor
