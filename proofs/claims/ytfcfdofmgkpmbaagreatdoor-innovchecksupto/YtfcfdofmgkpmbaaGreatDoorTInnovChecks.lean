/- The law InnovChecks returns true and leaves its arguments as they were, for all arguments of bulk at most 1048576 (the card of its Upto form). -/
import Derived.Test.YtfcfdofmgkpmbaaGreatDoorCChecks
namespace Go.Proofs.YtfcfdofmgkpmbaaGreatDoor
theorem innovChecks_holds : Rows.InnovChecksUptoCardSaid := Go.AM.InChecks.cardUpto
end Go.Proofs.YtfcfdofmgkpmbaaGreatDoor
