/- The law HistorySteps returns true and leaves its arguments as they were, for all arguments of bulk at most 1048576 (the card of its Upto form). -/
import Derived.Test.YtodhnkfgkgkngaaGreatDoorCSteps
namespace Go.Proofs.YtodhnkfgkgkngaaGreatDoor
theorem historySteps_holds : Rows.HistoryStepsUptoCardSaid := Go.AM.HiSteps.cardUpto
end Go.Proofs.YtodhnkfgkgkngaaGreatDoor
