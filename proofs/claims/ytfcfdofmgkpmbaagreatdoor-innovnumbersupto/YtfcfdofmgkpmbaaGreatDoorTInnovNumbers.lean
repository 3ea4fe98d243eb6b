/- The law InnovNumbers returns true and leaves its arguments as they were, for all arguments of bulk at most 1048576 (the card of its Upto form). -/
import Derived.Test.YtfcfdofmgkpmbaaGreatDoorCNumbers
namespace Go.Proofs.YtfcfdofmgkpmbaaGreatDoor
theorem innovNumbers_holds : Rows.InnovNumbersUptoCardSaid := Go.AM.InNumbers.cardUpto
end Go.Proofs.YtfcfdofmgkpmbaaGreatDoor
