/- The law LoansStays returns true and leaves its arguments as they were, for all arguments of bulk at most 1048576 (the card of its Upto form). -/
import Derived.Test.YtegikiijkjlikaaGreatDoorCStays
namespace Go.Proofs.YtegikiijkjlikaaGreatDoor
theorem loansStays_holds : Rows.LoansStaysUptoCardSaid := Go.AM.LoanStays.cardUpto
end Go.Proofs.YtegikiijkjlikaaGreatDoor
