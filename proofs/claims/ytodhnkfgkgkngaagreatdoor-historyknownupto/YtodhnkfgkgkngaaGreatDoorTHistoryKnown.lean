/- The law HistoryKnown returns true and leaves its arguments as they were, for all arguments of bulk at most 1048576 (the card of its Upto form). -/
import Derived.Test.YtodhnkfgkgkngaaGreatDoorCKnown
namespace Go.Proofs.YtodhnkfgkgkngaaGreatDoor
theorem historyKnown_holds : Rows.HistoryKnownUptoCardSaid := Go.AM.HiKnown.cardUpto
end Go.Proofs.YtodhnkfgkgkngaaGreatDoor
