/- The law ProofKnown returns true and leaves its arguments as they were, for all arguments of bulk at most 1048576 (the card of its Upto form). -/
import Derived.Test.YthdmmdgkphmakaaGreatDoorCKnown
namespace Go.Proofs.YthdmmdgkphmakaaGreatDoor
theorem proofKnown_holds : Rows.ProofKnownUptoCardSaid := Go.AM.PrKnown.cardUpto
end Go.Proofs.YthdmmdgkphmakaaGreatDoor
