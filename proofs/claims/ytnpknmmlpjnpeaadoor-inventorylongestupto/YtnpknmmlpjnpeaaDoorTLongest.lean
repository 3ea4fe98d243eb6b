/- The law InventoryLongest returns true and leaves its arguments as they were, for all arguments of bulk at most 1048576 (the card of its Upto form). -/
import Derived.Test.YtnpknmmlpjnpeaaDoorCLongest
namespace Go.Proofs.YtnpknmmlpjnpeaaDoor
theorem longest_holds : Rows.InventoryLongestUptoCardSaid := Go.AM.InvLongest.cardUpto
end Go.Proofs.YtnpknmmlpjnpeaaDoor
