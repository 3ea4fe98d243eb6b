/- The law InnovClasses returns true and leaves its arguments as they were, for all arguments of bulk at most 1048576 (the card of its Upto form). -/
import Derived.Test.YtfcfdofmgkpmbaaGreatDoorCClasses
namespace Go.Proofs.YtfcfdofmgkpmbaaGreatDoor
theorem innovClasses_holds : Rows.InnovClassesUptoCardSaid := Go.AM.InClasses.cardUpto
end Go.Proofs.YtfcfdofmgkpmbaaGreatDoor
