/- The law ProofMakes returns true and leaves its arguments as they were, for all arguments of bulk at most 1048576 (the card of its Upto form). -/
import Derived.Test.YthnfmkeomcncgaaGreatDoorCMakes
namespace Go.Proofs.YthnfmkeomcncgaaGreatDoor
theorem proofMakes_holds : Rows.ProofMakesUptoCardSaid := Go.AM.PrMakes.cardUpto
end Go.Proofs.YthnfmkeomcncgaaGreatDoor
