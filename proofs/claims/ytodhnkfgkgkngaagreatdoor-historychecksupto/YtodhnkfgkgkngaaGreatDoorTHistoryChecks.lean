/- The law HistoryChecks returns true and leaves its arguments as they were, for all arguments of bulk at most 1048576 (the card of its Upto form). -/
import Derived.Test.YtodhnkfgkgkngaaGreatDoorCChecks
namespace Go.Proofs.YtodhnkfgkgkngaaGreatDoor
theorem historyChecks_holds : Rows.HistoryChecksUptoCardSaid := Go.AM.HiChecks.cardUpto
end Go.Proofs.YtodhnkfgkgkngaaGreatDoor
