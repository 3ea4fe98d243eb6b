/- The law AttestBads returns true and leaves its arguments as they were, for all arguments of bulk at most 1048576 (the card of its Upto form). -/
import Derived.Test.YtlbooedblpdmaaaGreatDoorCBads
namespace Go.Proofs.YtlbooedblpdmaaaGreatDoor
theorem attestBads_holds : Rows.AttestBadsUptoCardSaid := Go.AM.AtBads.cardUpto
end Go.Proofs.YtlbooedblpdmaaaGreatDoor
