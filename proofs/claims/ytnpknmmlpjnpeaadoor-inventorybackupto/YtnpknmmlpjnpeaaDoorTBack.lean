/- The law InventoryBack returns true and leaves its arguments as they were, for all arguments of bulk at most 1048576 (the card of its Upto form). -/
import Derived.Test.YtnpknmmlpjnpeaaDoorCBack
namespace Go.Proofs.YtnpknmmlpjnpeaaDoor
theorem back_holds : Rows.InventoryBackUptoCardSaid := Go.AM.InvBack.cardUpto
end Go.Proofs.YtnpknmmlpjnpeaaDoor
