/- The law InnovTwo returns true and leaves its arguments as they were, for all arguments of bulk at most 1048576 (the card of its Upto form). -/
import Derived.Test.YtfcfdofmgkpmbaaGreatDoorCTwo
namespace Go.Proofs.YtfcfdofmgkpmbaaGreatDoor
theorem innovTwo_holds : Rows.InnovTwoUptoCardSaid := Go.AM.InTwo.cardUpto
end Go.Proofs.YtfcfdofmgkpmbaaGreatDoor
