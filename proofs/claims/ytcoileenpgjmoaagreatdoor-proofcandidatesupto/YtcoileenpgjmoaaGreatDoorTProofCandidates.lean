/- The law ProofCandidates returns true and leaves its arguments as they were, for all arguments of bulk at most 1048576 (the card of its Upto form). -/
import Derived.Test.YtcoileenpgjmoaaGreatDoorCCand
namespace Go.Proofs.YtcoileenpgjmoaaGreatDoor
theorem proofCandidates_holds : Rows.ProofCandidatesUptoCardSaid := Go.AM.PrCand.cardUpto
end Go.Proofs.YtcoileenpgjmoaaGreatDoor
