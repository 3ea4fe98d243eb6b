/- The law LoansDonors returns true and leaves its arguments as they were, for all arguments of bulk at most 1048576 (the card of its Upto form). -/
import Derived.Test.YtegikiijkjlikaaGreatDoorCDonors
namespace Go.Proofs.YtegikiijkjlikaaGreatDoor
theorem loanDonors_holds : Rows.LoansDonorsUptoCardSaid := Go.AM.LoanDonors.cardUpto
end Go.Proofs.YtegikiijkjlikaaGreatDoor
