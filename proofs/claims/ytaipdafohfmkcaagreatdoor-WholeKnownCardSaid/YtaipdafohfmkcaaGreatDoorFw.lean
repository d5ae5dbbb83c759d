/- What the arguments of the laws on whole numbers hold: drafts, integers, texts; the library's variables. -/
import Derived.Test.YtaipdafohfmkcaaGreatDoorFr
import Derived.Test.YtaipdafohfmkcaaGreatDoorVb1
import Derived.LaidLaws
set_option maxHeartbeats 1000000
namespace Go.Sx
open Go Go.ChangeShapes Go.WideShapes Go.ChangeAt Go.RowKit
variable {H:Type} {enc:TypeId × Value→H} {P:Program} {w:World} {base:Nat} {spare:Nat→Bool} {held:Bool}
end Go.Sx
namespace Go.Proofs.YtaipdafohfmkcaaGreatDoor
open Go Go.Sx Go.ChangeShapes Go.WideShapes Go.ChangeAt Go.RowKit
variable {H:Type} {enc:TypeId × Value→H} {W:World}
section
variable {base:Nat} {sp:Nat→Bool} {held:Bool} {fuel:Nat} {cs:List Value} {x:DataW H × List MemPlace}
end
end Go.Proofs.YtaipdafohfmkcaaGreatDoor
