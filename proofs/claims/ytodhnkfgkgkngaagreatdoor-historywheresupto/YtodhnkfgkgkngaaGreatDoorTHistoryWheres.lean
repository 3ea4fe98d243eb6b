/- The law HistoryWheres returns true and leaves its arguments as they were, for all arguments of bulk at most 1048576 (the card of its Upto form). -/
import Derived.Test.YtodhnkfgkgkngaaGreatDoorCWheres
namespace Go.Proofs.YtodhnkfgkgkngaaGreatDoor
theorem historyWheres_holds : Rows.HistoryWheresUptoCardSaid := Go.AM.HiWheres.cardUpto
end Go.Proofs.YtodhnkfgkgkngaaGreatDoor
