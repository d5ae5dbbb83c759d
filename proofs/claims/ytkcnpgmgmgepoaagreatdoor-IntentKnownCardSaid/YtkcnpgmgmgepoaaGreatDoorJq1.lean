/- Walks: the reference on fractions: which are valid, reading, comparing. -/
import Derived.Test.YtkcnpgmgmgepoaaGreatDoorCd1
import Derived.Test.YtkcnpgmgmgepoaaGreatDoorIx1
import Derived.Test.YtkcnpgmgmgepoaaGreatDoorVb1
import Derived.Test.YtkcnpgmgmgepoaaGreatDoorCc1
namespace Go.Sx
open Go
end Go.Sx
namespace Go.Proofs.YtkcnpgmgmgepoaaGreatDoor
open Go Go.Sx
variable {w0:World} {As:List Ent}
end Go.Proofs.YtkcnpgmgmgepoaaGreatDoor
