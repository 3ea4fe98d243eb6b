/- The law HistoryOutcomes returns true and leaves its arguments as they were, for all arguments of bulk at most 1048576 (the card of its Upto form). -/
import Derived.Test.YtodhnkfgkgkngaaGreatDoorCOutcomes
namespace Go.Proofs.YtodhnkfgkgkngaaGreatDoor
theorem historyOutcomes_holds : Rows.HistoryOutcomesUptoCardSaid := Go.AM.HiOutcomes.cardUpto
end Go.Proofs.YtodhnkfgkgkngaaGreatDoor
