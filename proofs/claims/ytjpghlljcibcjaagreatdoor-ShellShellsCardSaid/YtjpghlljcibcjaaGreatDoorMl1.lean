/- Walks: the law's own small functions. -/
import Derived.Test.YtjpghlljcibcjaaGreatDoorMb2
import Derived.Test.YtjpghlljcibcjaaGreatDoorPl
namespace Go.Proofs.YtjpghlljcibcjaaGreatDoor
open Go Go.Sx
variable {w0 : World} {As : List Ent} {pv fv : Value} {pts fcs : List V3}
end Go.Proofs.YtjpghlljcibcjaaGreatDoor
