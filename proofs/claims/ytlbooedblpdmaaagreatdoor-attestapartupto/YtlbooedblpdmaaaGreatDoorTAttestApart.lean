/- The law AttestApart returns true and leaves its arguments as they were, for all arguments of bulk at most 1048576 (the card of its Upto form). -/
import Derived.Test.YtlbooedblpdmaaaGreatDoorCApart
namespace Go.Proofs.YtlbooedblpdmaaaGreatDoor
theorem attestApart_holds : Rows.AttestApartUptoCardSaid := Go.AM.AtApart.cardUpto
end Go.Proofs.YtlbooedblpdmaaaGreatDoor
