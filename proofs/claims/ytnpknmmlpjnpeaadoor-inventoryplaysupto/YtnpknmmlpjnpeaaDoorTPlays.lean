/- The law InventoryPlays returns true and leaves its arguments as they were, for all arguments of bulk at most 1048576 (the card of its Upto form). -/
import Derived.Test.YtnpknmmlpjnpeaaDoorCPlays
namespace Go.Proofs.YtnpknmmlpjnpeaaDoor
theorem plays_holds : Rows.InventoryPlaysUptoCardSaid := Go.AM.InvPlays.cardUpto
end Go.Proofs.YtnpknmmlpjnpeaaDoor
