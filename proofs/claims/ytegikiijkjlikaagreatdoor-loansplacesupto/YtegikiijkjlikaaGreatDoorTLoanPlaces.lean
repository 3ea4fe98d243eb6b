/- The law LoansPlaces returns true and leaves its arguments as they were, for all arguments of bulk at most 1048576 (the card of its Upto form). -/
import Derived.Test.YtegikiijkjlikaaGreatDoorCPlaces
namespace Go.Proofs.YtegikiijkjlikaaGreatDoor
theorem loanPlaces_holds : Rows.LoansPlacesUptoCardSaid := Go.AM.LoanPlaces.cardUpto
end Go.Proofs.YtegikiijkjlikaaGreatDoor
