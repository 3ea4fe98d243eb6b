/- The law LoansLast returns true and leaves its arguments as they were, for all arguments of bulk at most 1048576 (the card of its Upto form). -/
import Derived.Test.YtegikiijkjlikaaGreatDoorCLast
namespace Go.Proofs.YtegikiijkjlikaaGreatDoor
theorem loanLast_holds : Rows.LoansLastUptoCardSaid := Go.AM.LoanLast.cardUpto
end Go.Proofs.YtegikiijkjlikaaGreatDoor
