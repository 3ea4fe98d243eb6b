/- The law AttestNamed returns true and leaves its arguments as they were, for all arguments of bulk at most 1048576 (the card of its Upto form). -/
import Derived.Test.YtlbooedblpdmaaaGreatDoorCNamed
namespace Go.Proofs.YtlbooedblpdmaaaGreatDoor
theorem attestNamed_holds : Rows.AttestNamedUptoCardSaid := Go.AM.AtNamed.cardUpto
end Go.Proofs.YtlbooedblpdmaaaGreatDoor
