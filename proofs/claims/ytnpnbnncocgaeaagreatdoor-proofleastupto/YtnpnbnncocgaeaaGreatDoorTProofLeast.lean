/- The law ProofLeast returns true and leaves its arguments as they were, for all arguments of bulk at most 1048576 (the card of its Upto form). -/
import Derived.Test.YtnpnbnncocgaeaaGreatDoorCLeast
namespace Go.Proofs.YtnpnbnncocgaeaaGreatDoor
theorem proofLeast_holds : Rows.ProofLeastUptoCardSaid := Go.AM.PrLeast.cardUpto
end Go.Proofs.YtnpnbnncocgaeaaGreatDoor
