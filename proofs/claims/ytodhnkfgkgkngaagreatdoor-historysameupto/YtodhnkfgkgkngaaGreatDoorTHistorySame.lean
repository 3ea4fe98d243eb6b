/- The law HistorySame returns true and leaves its arguments as they were, for all arguments of bulk at most 1048576 (the card of its Upto form). -/
import Derived.Test.YtodhnkfgkgkngaaGreatDoorCSame
namespace Go.Proofs.YtodhnkfgkgkngaaGreatDoor
theorem historySame_holds : Rows.HistorySameUptoCardSaid := Go.AM.HiSame.cardUpto
end Go.Proofs.YtodhnkfgkgkngaaGreatDoor
