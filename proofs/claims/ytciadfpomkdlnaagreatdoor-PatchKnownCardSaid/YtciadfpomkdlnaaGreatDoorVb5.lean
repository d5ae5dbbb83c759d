/- Walks: the reference on whole numbers: quotients of lists of digits. -/
import Derived.Test.YtciadfpomkdlnaaGreatDoorVb1
set_option maxHeartbeats 1000000
namespace Go.Sx
open Go
end Go.Sx
namespace Go.Proofs.YtciadfpomkdlnaaGreatDoor
open Go Go.Sx
variable {w0:World} {As:List Ent}
end Go.Proofs.YtciadfpomkdlnaaGreatDoor
namespace Go.Sx
open Go
end Go.Sx
namespace Go.Proofs.YtciadfpomkdlnaaGreatDoor
open Go Go.Sx
variable {w0:World} {As:List Ent}
end Go.Proofs.YtciadfpomkdlnaaGreatDoor
