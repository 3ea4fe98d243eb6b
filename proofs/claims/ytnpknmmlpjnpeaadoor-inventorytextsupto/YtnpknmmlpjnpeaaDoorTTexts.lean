/- The law InventoryTexts returns true and leaves its arguments as they were, for all arguments of bulk at most 1048576 (the card of its Upto form). -/
import Derived.Test.YtnpknmmlpjnpeaaDoorCTexts
namespace Go.Proofs.YtnpknmmlpjnpeaaDoor
theorem texts_holds : Rows.InventoryTextsUptoCardSaid := Go.AM.InvTexts.cardUpto
end Go.Proofs.YtnpknmmlpjnpeaaDoor
