/- The law ProofExceptions returns true and leaves its arguments as they were, for all arguments of bulk at most 1048576 (the card of its Upto form). -/
import Derived.Test.YtcoileenpgjmoaaGreatDoorCExc
namespace Go.Proofs.YtcoileenpgjmoaaGreatDoor
theorem proofExceptions_holds : Rows.ProofExceptionsUptoCardSaid := Go.AM.PrExc.cardUpto
end Go.Proofs.YtcoileenpgjmoaaGreatDoor
