/- The law InnovMany returns true and leaves its arguments as they were, for all arguments of bulk at most 1048576 (the card of its Upto form). -/
import Derived.Test.YtfcfdofmgkpmbaaGreatDoorCMany
namespace Go.Proofs.YtfcfdofmgkpmbaaGreatDoor
theorem innovMany_holds : Rows.InnovManyUptoCardSaid := Go.AM.InMany.cardUpto
end Go.Proofs.YtfcfdofmgkpmbaaGreatDoor
