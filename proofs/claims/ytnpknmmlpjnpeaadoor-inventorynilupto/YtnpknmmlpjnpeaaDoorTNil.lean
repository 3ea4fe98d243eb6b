/- The law InventoryNil returns true and leaves its arguments as they were, for all arguments of bulk at most 1048576 (the card of its Upto form). -/
import Derived.Test.YtnpknmmlpjnpeaaDoorCNil
namespace Go.Proofs.YtnpknmmlpjnpeaaDoor
theorem nil_holds : Rows.InventoryNilUptoCardSaid := Go.AM.InvNil.cardUpto
end Go.Proofs.YtnpknmmlpjnpeaaDoor
