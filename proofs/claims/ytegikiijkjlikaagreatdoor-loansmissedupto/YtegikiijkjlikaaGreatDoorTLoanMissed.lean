/- The law LoansMissed returns true and leaves its arguments as they were, for all arguments of bulk at most 1048576 (the card of its Upto form). -/
import Derived.Test.YtegikiijkjlikaaGreatDoorCMissed
namespace Go.Proofs.YtegikiijkjlikaaGreatDoor
theorem loanMissed_holds : Rows.LoansMissedUptoCardSaid := Go.AM.LoanMissed.cardUpto
end Go.Proofs.YtegikiijkjlikaaGreatDoor
