/- The law LoansLayers returns true and leaves its arguments as they were, for all arguments of bulk at most 1048576 (the card of its Upto form). -/
import Derived.Test.YtegikiijkjlikaaGreatDoorCLayers
namespace Go.Proofs.YtegikiijkjlikaaGreatDoor
theorem loanLayers_holds : Rows.LoansLayersUptoCardSaid := Go.AM.LoanLayers.cardUpto
end Go.Proofs.YtegikiijkjlikaaGreatDoor
