/- The law TopReconstruction returns true and leaves its arguments as they were, for all arguments of bulk at most 1048576 (the card of its Upto form). -/
import Derived.Test.YtppapmfonjmfbaaGreatDoorCRec
namespace Go.Proofs.YtppapmfonjmfbaaGreatDoor
theorem topReconstruction_holds : Rows.TopReconstructionUptoCardSaid := Go.AM.ToRec.cardUpto
end Go.Proofs.YtppapmfonjmfbaaGreatDoor
