/- Walks: the library's functions on lines: SplitAfter, Join, ReplaceAll, Replace, TrimSuffix. -/
import Derived.Test.YtciadfpomkdlnaaGreatDoorPl1
import Derived.Test.YtciadfpomkdlnaaGreatDoorPpa
set_option maxHeartbeats 1000000
namespace Go.Proofs.YtciadfpomkdlnaaGreatDoor.Q
open Go Go.Sx Go.RowKit
variable {w0:World} {As:List Ent}
end Go.Proofs.YtciadfpomkdlnaaGreatDoor.Q
