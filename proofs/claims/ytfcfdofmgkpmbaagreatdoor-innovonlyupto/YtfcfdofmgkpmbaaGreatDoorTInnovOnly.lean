/- The law InnovOnly returns true and leaves its arguments as they were, for all arguments of bulk at most 1048576 (the card of its Upto form). -/
import Derived.Test.YtfcfdofmgkpmbaaGreatDoorCOnly
namespace Go.Proofs.YtfcfdofmgkpmbaaGreatDoor
theorem innovOnly_holds : Rows.InnovOnlyUptoCardSaid := Go.AM.InOnly.cardUpto
end Go.Proofs.YtfcfdofmgkpmbaaGreatDoor
