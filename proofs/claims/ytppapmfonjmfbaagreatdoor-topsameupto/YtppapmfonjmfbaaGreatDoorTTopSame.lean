/- The law TopSame returns true and leaves its arguments as they were, for all arguments of bulk at most 1048576 (the card of its Upto form). -/
import Derived.Test.YtppapmfonjmfbaaGreatDoorCSame
namespace Go.Proofs.YtppapmfonjmfbaaGreatDoor
theorem topSame_holds : Rows.TopSameUptoCardSaid := Go.AM.ToSame.cardUpto
end Go.Proofs.YtppapmfonjmfbaaGreatDoor
