/- The law InventoryFull returns true and leaves its arguments as they were, for all arguments of bulk at most 1048576 (the card of its Upto form). -/
import Derived.Test.YtnpknmmlpjnpeaaDoorCFull
namespace Go.Proofs.YtnpknmmlpjnpeaaDoor
theorem full_holds : Rows.InventoryFullUptoCardSaid := Go.AM.InvFull.cardUpto
end Go.Proofs.YtnpknmmlpjnpeaaDoor
