/- The law AttestLaws returns true and leaves its arguments as they were, for all arguments of bulk at most 1048576 (the card of its Upto form). -/
import Derived.Test.YtlbooedblpdmaaaGreatDoorCLaws
namespace Go.Proofs.YtlbooedblpdmaaaGreatDoor
theorem attestLaws_holds : Rows.AttestLawsUptoCardSaid := Go.AM.AtLaws.cardUpto
end Go.Proofs.YtlbooedblpdmaaaGreatDoor
