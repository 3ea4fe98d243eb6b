/- The law AttestBests returns true and leaves its arguments as they were, for all arguments of bulk at most 1048576 (the card of its Upto form). -/
import Derived.Test.YtlbooedblpdmaaaGreatDoorCBests
namespace Go.Proofs.YtlbooedblpdmaaaGreatDoor
theorem attestBests_holds : Rows.AttestBestsUptoCardSaid := Go.AM.AtBests.cardUpto
end Go.Proofs.YtlbooedblpdmaaaGreatDoor
