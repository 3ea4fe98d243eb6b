/- The law InventoryCopies returns true and leaves its arguments as they were, for all arguments of bulk at most 1048576 (the card of its Upto form). -/
import Derived.Test.YtnpknmmlpjnpeaaDoorCCopies
namespace Go.Proofs.YtnpknmmlpjnpeaaDoor
theorem copies_holds : Rows.InventoryCopiesUptoCardSaid := Go.AM.InvCopies.cardUpto
end Go.Proofs.YtnpknmmlpjnpeaaDoor
