/- The law LoansEnds returns true and leaves its arguments as they were, for all arguments of bulk at most 1048576 (the card of its Upto form). -/
import Derived.Test.YtegikiijkjlikaaGreatDoorCEnds
namespace Go.Proofs.YtegikiijkjlikaaGreatDoor
theorem loanEnds_holds : Rows.LoansEndsUptoCardSaid := Go.AM.LoanEnds.cardUpto
end Go.Proofs.YtegikiijkjlikaaGreatDoor
