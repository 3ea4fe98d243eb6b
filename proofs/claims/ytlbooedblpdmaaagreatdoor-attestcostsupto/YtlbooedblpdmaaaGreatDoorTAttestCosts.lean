/- The law AttestCosts returns true and leaves its arguments as they were, for all arguments of bulk at most 1048576 (the card of its Upto form). -/
import Derived.Test.YtlbooedblpdmaaaGreatDoorCCosts
namespace Go.Proofs.YtlbooedblpdmaaaGreatDoor
theorem attestCosts_holds : Rows.AttestCostsUptoCardSaid := Go.AM.AtCosts.cardUpto
end Go.Proofs.YtlbooedblpdmaaaGreatDoor
