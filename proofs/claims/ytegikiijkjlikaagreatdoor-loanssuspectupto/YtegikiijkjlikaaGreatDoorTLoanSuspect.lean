/- The law LoansSuspect returns true and leaves its arguments as they were, for all arguments of bulk at most 1048576 (the card of its Upto form). -/
import Derived.Test.YtegikiijkjlikaaGreatDoorCSuspect
namespace Go.Proofs.YtegikiijkjlikaaGreatDoor
theorem loanSuspect_holds : Rows.LoansSuspectUptoCardSaid := Go.AM.LoanSuspect.cardUpto
end Go.Proofs.YtegikiijkjlikaaGreatDoor
