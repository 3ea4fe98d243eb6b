/- The law AttestExplains returns true and leaves its arguments as they were, for all arguments of bulk at most 1048576 (the card of its Upto form). -/
import Derived.Test.YtlbooedblpdmaaaGreatDoorCExplains
namespace Go.Proofs.YtlbooedblpdmaaaGreatDoor
theorem attestExplains_holds : Rows.AttestExplainsUptoCardSaid := Go.AM.AtExplains.cardUpto
end Go.Proofs.YtlbooedblpdmaaaGreatDoor
