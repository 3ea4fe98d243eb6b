/- The law InventoryFinds returns true and leaves its arguments as they were, for all arguments of bulk at most 1048576 (the card of its Upto form). -/
import Derived.Test.YtnpknmmlpjnpeaaDoorCFinds
namespace Go.Proofs.YtnpknmmlpjnpeaaDoor
theorem finds_holds : Rows.InventoryFindsUptoCardSaid := Go.AM.InvFinds.cardUpto
end Go.Proofs.YtnpknmmlpjnpeaaDoor
