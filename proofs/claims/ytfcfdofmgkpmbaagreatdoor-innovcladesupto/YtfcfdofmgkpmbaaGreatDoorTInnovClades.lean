/- The law InnovClades returns true and leaves its arguments as they were, for all arguments of bulk at most 1048576 (the card of its Upto form). -/
import Derived.Test.YtfcfdofmgkpmbaaGreatDoorCClades
namespace Go.Proofs.YtfcfdofmgkpmbaaGreatDoor
theorem innovClades_holds : Rows.InnovCladesUptoCardSaid := Go.AM.InClades.cardUpto
end Go.Proofs.YtfcfdofmgkpmbaaGreatDoor
