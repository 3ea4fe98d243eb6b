/- The law LoansDates returns true and leaves its arguments as they were, for all arguments of bulk at most 1048576 (the card of its Upto form). -/
import Derived.Test.YtegikiijkjlikaaGreatDoorCDates
namespace Go.Proofs.YtegikiijkjlikaaGreatDoor
theorem loanDates_holds : Rows.LoansDatesUptoCardSaid := Go.AM.LoanDates.cardUpto
end Go.Proofs.YtegikiijkjlikaaGreatDoor
