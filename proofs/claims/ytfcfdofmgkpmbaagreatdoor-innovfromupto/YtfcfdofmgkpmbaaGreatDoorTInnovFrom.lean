/- The law InnovFrom returns true and leaves its arguments as they were, for all arguments of bulk at most 1048576 (the card of its Upto form). -/
import Derived.Test.YtfcfdofmgkpmbaaGreatDoorCFrom
namespace Go.Proofs.YtfcfdofmgkpmbaaGreatDoor
theorem innovFrom_holds : Rows.InnovFromUptoCardSaid := Go.AM.InFrom.cardUpto
end Go.Proofs.YtfcfdofmgkpmbaaGreatDoor
