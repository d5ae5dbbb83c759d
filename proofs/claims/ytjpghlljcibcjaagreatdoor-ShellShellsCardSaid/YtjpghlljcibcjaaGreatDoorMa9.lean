/- Walks: the measures of a mesh: the Euler number, the box. -/
import Derived.Test.YtjpghlljcibcjaaGreatDoorMa8
import Derived.Test.YtjpghlljcibcjaaGreatDoorPl
namespace Go.Proofs.YtjpghlljcibcjaaGreatDoor
open Go Go.Sx
variable {w0 : World} {As : List Ent} {pv fv : Value} {pts fcs : List V3}
end Go.Proofs.YtjpghlljcibcjaaGreatDoor
