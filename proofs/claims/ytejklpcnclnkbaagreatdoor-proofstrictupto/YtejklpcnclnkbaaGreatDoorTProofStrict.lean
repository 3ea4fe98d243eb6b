/- The law ProofStrict returns true and leaves its arguments as they were, for all arguments of bulk at most 1048576 (the card of its Upto form). -/
import Derived.Test.YtejklpcnclnkbaaGreatDoorCStrict
namespace Go.Proofs.YtejklpcnclnkbaaGreatDoor
theorem proofStrict_holds : Rows.ProofStrictUptoCardSaid := Go.AM.PrStrict.cardUpto
end Go.Proofs.YtejklpcnclnkbaaGreatDoor
