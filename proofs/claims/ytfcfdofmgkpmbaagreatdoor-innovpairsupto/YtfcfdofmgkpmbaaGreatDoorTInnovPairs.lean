/- The law InnovPairs returns true and leaves its arguments as they were, for all arguments of bulk at most 1048576 (the card of its Upto form). -/
import Derived.Test.YtfcfdofmgkpmbaaGreatDoorCPairs
namespace Go.Proofs.YtfcfdofmgkpmbaaGreatDoor
theorem innovPairs_holds : Rows.InnovPairsUptoCardSaid := Go.AM.InPairs.cardUpto
end Go.Proofs.YtfcfdofmgkpmbaaGreatDoor
