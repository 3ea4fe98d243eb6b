/- The law LoansWithout returns true and leaves its arguments as they were, for all arguments of bulk at most 1048576 (the card of its Upto form). -/
import Derived.Test.YtegikiijkjlikaaGreatDoorCWithout
namespace Go.Proofs.YtegikiijkjlikaaGreatDoor
theorem loanWithout_holds : Rows.LoansWithoutUptoCardSaid := Go.AM.LoanWithout.cardUpto
end Go.Proofs.YtegikiijkjlikaaGreatDoor
