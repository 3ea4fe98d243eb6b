/- The law ProofHolds returns true and leaves its arguments as they were, for all arguments of bulk at most 1048576 (the card of its Upto form). -/
import Derived.Test.YtcoileenpgjmoaaGreatDoorCHolds
namespace Go.Proofs.YtcoileenpgjmoaaGreatDoor
theorem proofHolds_holds : Rows.ProofHoldsUptoCardSaid := Go.AM.PrHolds.cardUpto
end Go.Proofs.YtcoileenpgjmoaaGreatDoor
