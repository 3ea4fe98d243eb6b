/- The law InnovParts returns true and leaves its arguments as they were, for all arguments of bulk at most 1048576 (the card of its Upto form). -/
import Derived.Test.YtfcfdofmgkpmbaaGreatDoorCParts
namespace Go.Proofs.YtfcfdofmgkpmbaaGreatDoor
theorem innovParts_holds : Rows.InnovPartsUptoCardSaid := Go.AM.InParts.cardUpto
end Go.Proofs.YtfcfdofmgkpmbaaGreatDoor
