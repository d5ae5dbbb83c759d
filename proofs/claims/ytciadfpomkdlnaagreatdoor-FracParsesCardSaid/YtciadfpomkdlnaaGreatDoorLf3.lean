/- Walks: operations on valid fractions, in short; the law of the field. -/
import Derived.Test.YtciadfpomkdlnaaGreatDoorLf2
import Derived.Test.YtciadfpomkdlnaaGreatDoorCd1
import Derived.Test.YtciadfpomkdlnaaGreatDoorCc3
set_option maxHeartbeats 1000000
namespace Go.Sx
open Go
end Go.Sx
namespace Go.Proofs.YtciadfpomkdlnaaGreatDoor.Q
open Go Go.Sx
variable {w0:World} {As:List Ent}
end Go.Proofs.YtciadfpomkdlnaaGreatDoor.Q
