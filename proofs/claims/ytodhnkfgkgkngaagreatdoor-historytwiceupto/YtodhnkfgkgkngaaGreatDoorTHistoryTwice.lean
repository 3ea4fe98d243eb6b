/- The law HistoryTwice returns true and leaves its arguments as they were, for all arguments of bulk at most 1048576 (the card of its Upto form). -/
import Derived.Test.YtodhnkfgkgkngaaGreatDoorCTwice
namespace Go.Proofs.YtodhnkfgkgkngaaGreatDoor
theorem historyTwice_holds : Rows.HistoryTwiceUptoCardSaid := Go.AM.HiTwice.cardUpto
end Go.Proofs.YtodhnkfgkgkngaaGreatDoor
