/- What the arguments of the laws on meshes hold: a mesh, a draft, changes. -/
import Derived.Test.YtkcnpgmgmgepoaaGreatDoorFr
import Derived.Test.YtkcnpgmgmgepoaaGreatDoorMr1
import Derived.Test.YtkcnpgmgmgepoaaGreatDoorJr1
namespace Go.Proofs.YtkcnpgmgmgepoaaGreatDoor
open Go Go.Sx Go.ChangeShapes Go.WideShapes Go.ChangeAt Go.RowKit
variable {H:Type} {enc:TypeId × Value→H} {W:World}
section
variable {base:Nat} {sp:Nat→Bool} {held:Bool} {fuel:Nat} {cs:List Value} {x:DataW H × List MemPlace}
end
end Go.Proofs.YtkcnpgmgmgepoaaGreatDoor
namespace Go.Sx
open Go Go.ChangeShapes Go.WideShapes Go.ChangeAt Go.RowKit
end Go.Sx
namespace Go.Proofs.YtkcnpgmgmgepoaaGreatDoor
open Go Go.Sx Go.ChangeShapes Go.WideShapes Go.ChangeAt Go.RowKit
variable {H:Type} {enc:TypeId × Value→H} {W:World} {base:Nat} {sp:Nat→Bool} {held:Bool} {fuel:Nat} {cs:List Value} {x:DataW H × List MemPlace}
end Go.Proofs.YtkcnpgmgmgepoaaGreatDoor
namespace Go.Proofs.YtkcnpgmgmgepoaaGreatDoor
open Go Go.Sx Go.ChangeShapes Go.WideShapes Go.ChangeAt Go.RowKit
variable {H:Type} {enc:TypeId × Value→H} {W:World} {base:Nat} {sp:Nat→Bool} {held:Bool} {fuel:Nat} {cs:List Value} {x:DataW H × List MemPlace}
end Go.Proofs.YtkcnpgmgmgepoaaGreatDoor
