/- The law AttestRegular returns true and leaves its arguments as they were, for all arguments of bulk at most 1048576 (the card of its Upto form). -/
import Derived.Test.YtlbooedblpdmaaaGreatDoorCRegular
namespace Go.Proofs.YtlbooedblpdmaaaGreatDoor
theorem attestRegular_holds : Rows.AttestRegularUptoCardSaid := Go.AM.AtRegular.cardUpto
end Go.Proofs.YtlbooedblpdmaaaGreatDoor
