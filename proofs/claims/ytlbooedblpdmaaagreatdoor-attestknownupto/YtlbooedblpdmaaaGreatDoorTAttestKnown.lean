/- The law AttestKnown returns true and leaves its arguments as they were, for all arguments of bulk at most 1048576 (the card of its Upto form). -/
import Derived.Test.YtlbooedblpdmaaaGreatDoorCKnown
namespace Go.Proofs.YtlbooedblpdmaaaGreatDoor
theorem attestKnown_holds : Rows.AttestKnownUptoCardSaid := Go.AM.AtKnown.cardUpto
end Go.Proofs.YtlbooedblpdmaaaGreatDoor
