/- The law InventoryAny returns true and leaves its arguments as they were, for all arguments of bulk at most 1048576 (the card of its Upto form). -/
import Derived.Test.YtnpknmmlpjnpeaaDoorCAny
namespace Go.Proofs.YtnpknmmlpjnpeaaDoor
theorem any_holds : Rows.InventoryAnyUptoCardSaid := Go.AM.InvAny.cardUpto
end Go.Proofs.YtnpknmmlpjnpeaaDoor
