/- The law InnovWords returns true and leaves its arguments as they were, for all arguments of bulk at most 1048576 (the card of its Upto form). -/
import Derived.Test.YtfcfdofmgkpmbaaGreatDoorCWords
namespace Go.Proofs.YtfcfdofmgkpmbaaGreatDoor
theorem innovWords_holds : Rows.InnovWordsUptoCardSaid := Go.AM.InWords.cardUpto
end Go.Proofs.YtfcfdofmgkpmbaaGreatDoor
