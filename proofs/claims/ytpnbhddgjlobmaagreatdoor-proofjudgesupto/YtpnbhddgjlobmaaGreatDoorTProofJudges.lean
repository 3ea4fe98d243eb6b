/- The law ProofJudges returns true and leaves its arguments as they were, for all arguments of bulk at most 1048576 (the card of its Upto form). -/
import Derived.Test.YtpnbhddgjlobmaaGreatDoorCJudges
namespace Go.Proofs.YtpnbhddgjlobmaaGreatDoor
theorem proofJudges_holds : Rows.ProofJudgesUptoCardSaid := Go.AM.PrJudges.cardUpto
end Go.Proofs.YtpnbhddgjlobmaaGreatDoor
