/- The law ProofLines returns true and leaves its arguments as they were, for all arguments of bulk at most 1048576 (the card of its Upto form). -/
import Derived.Test.YtcoileenpgjmoaaGreatDoorCLines
namespace Go.Proofs.YtcoileenpgjmoaaGreatDoor
theorem proofLines_holds : Rows.ProofLinesUptoCardSaid := Go.AM.PrLines.cardUpto
end Go.Proofs.YtcoileenpgjmoaaGreatDoor
