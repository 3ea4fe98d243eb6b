/- The law AttestNeeds returns true and leaves its arguments as they were, for all arguments of bulk at most 1048576 (the card of its Upto form). -/
import Derived.Test.YtlbooedblpdmaaaGreatDoorCNeeds
namespace Go.Proofs.YtlbooedblpdmaaaGreatDoor
theorem attestNeeds_holds : Rows.AttestNeedsUptoCardSaid := Go.AM.AtNeeds.cardUpto
end Go.Proofs.YtlbooedblpdmaaaGreatDoor
