/- The law ProofTexts returns true and leaves its arguments as they were, for all arguments of bulk at most 1048576 (the card of its Upto form). -/
import Derived.Test.YtndjjecpdipknaaGreatDoorCTexts
namespace Go.Proofs.YtndjjecpdipknaaGreatDoor
theorem proofTexts_holds : Rows.ProofTextsUptoCardSaid := Go.AM.PrTexts.cardUpto
end Go.Proofs.YtndjjecpdipknaaGreatDoor
