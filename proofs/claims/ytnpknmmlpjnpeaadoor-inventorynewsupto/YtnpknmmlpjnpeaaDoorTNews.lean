/- The law InventoryNews returns true and leaves its arguments as they were, for all arguments of bulk at most 1048576 (the card of its Upto form). -/
import Derived.Test.YtnpknmmlpjnpeaaDoorCNews
namespace Go.Proofs.YtnpknmmlpjnpeaaDoor
theorem news_holds : Rows.InventoryNewsUptoCardSaid := Go.AM.InvNews.cardUpto
end Go.Proofs.YtnpknmmlpjnpeaaDoor
