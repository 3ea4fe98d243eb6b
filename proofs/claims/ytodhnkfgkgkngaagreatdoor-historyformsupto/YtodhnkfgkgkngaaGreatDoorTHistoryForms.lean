/- The law HistoryForms returns true and leaves its arguments as they were, for all arguments of bulk at most 1048576 (the card of its Upto form). -/
import Derived.Test.YtodhnkfgkgkngaaGreatDoorCForms
namespace Go.Proofs.YtodhnkfgkgkngaaGreatDoor
theorem historyForms_holds : Rows.HistoryFormsUptoCardSaid := Go.AM.HiForms.cardUpto
end Go.Proofs.YtodhnkfgkgkngaaGreatDoor
