/- The law HistorySwaps returns true and leaves its arguments as they were, for all arguments of bulk at most 1048576 (the card of its Upto form). -/
import Derived.Test.YtodhnkfgkgkngaaGreatDoorCSwaps
namespace Go.Proofs.YtodhnkfgkgkngaaGreatDoor
theorem historySwaps_holds : Rows.HistorySwapsUptoCardSaid := Go.AM.HiSwaps.cardUpto
end Go.Proofs.YtodhnkfgkgkngaaGreatDoor
