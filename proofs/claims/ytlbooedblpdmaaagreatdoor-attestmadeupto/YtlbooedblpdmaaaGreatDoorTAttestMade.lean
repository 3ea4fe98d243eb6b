/- The law AttestMade returns true and leaves its arguments as they were, for all arguments of bulk at most 1048576 (the card of its Upto form). -/
import Derived.Test.YtlbooedblpdmaaaGreatDoorCMade
namespace Go.Proofs.YtlbooedblpdmaaaGreatDoor
theorem attestMade_holds : Rows.AttestMadeUptoCardSaid := Go.AM.AtMade.cardUpto
end Go.Proofs.YtlbooedblpdmaaaGreatDoor
