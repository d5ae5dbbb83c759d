/- What the laws on measured patches are handed: drafts, cuts. -/
import Derived.Test.YtciadfpomkdlnaaGreatDoorFw
import Derived.Test.YtciadfpomkdlnaaGreatDoorPl1
set_option maxHeartbeats 1000000
namespace Go.Proofs.YtciadfpomkdlnaaGreatDoor
open Go Go.Sx Go.ChangeShapes Go.WideShapes Go.ChangeAt Go.RowKit
variable {H:Type} {enc:TypeId × Value→H} {W:World} {base:Nat} {sp:Nat→Bool} {held:Bool} {fuel:Nat} {cs:List Value} {x:DataW H × List MemPlace}
end Go.Proofs.YtciadfpomkdlnaaGreatDoor
