/- The law LoansRests returns true and leaves its arguments as they were, for all arguments of bulk at most 1048576 (the card of its Upto form). -/
import Derived.Test.YtegikiijkjlikaaGreatDoorCRests
namespace Go.Proofs.YtegikiijkjlikaaGreatDoor
theorem loanRests_holds : Rows.LoansRestsUptoCardSaid := Go.AM.LoanRests.cardUpto
end Go.Proofs.YtegikiijkjlikaaGreatDoor
