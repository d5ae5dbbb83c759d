/- Walks: the reference of the chapter on intents: fractions, the axis, anchors. -/
import Derived.Test.YtngcfjfaobcpmaaGreatDoorNw1
import Derived.Test.YtngcfjfaobcpmaaGreatDoorCr1
import Derived.Test.YtngcfjfaobcpmaaGreatDoorJr3
import Derived.Test.YtngcfjfaobcpmaaGreatDoorIj1
import Derived.Test.YtngcfjfaobcpmaaGreatDoorVb1
import Derived.Test.YtngcfjfaobcpmaaGreatDoorNp1
import Derived.Test.YtngcfjfaobcpmaaGreatDoorNw4
set_option maxHeartbeats 1000000
namespace Go.Sx
open Go
end Go.Sx
namespace Go.Proofs.YtngcfjfaobcpmaaGreatDoor
open Go Go.Sx
variable {w0:World} {As:List Ent} {pv fv:Value} {pts fcs:List V3}
end Go.Proofs.YtngcfjfaobcpmaaGreatDoor
namespace Go.Proofs.YtngcfjfaobcpmaaGreatDoor
open Go Go.Sx
variable {w0:World} {As:List Ent} {pv fv:Value} {pts fcs:List V3}
end Go.Proofs.YtngcfjfaobcpmaaGreatDoor
