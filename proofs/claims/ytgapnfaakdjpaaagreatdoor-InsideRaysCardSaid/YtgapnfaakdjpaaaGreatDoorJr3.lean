/- Walks: the reference of the chapter on insides: points on a mesh, winding numbers, sides. -/
import Derived.Test.YtgapnfaakdjpaaaGreatDoorJr1
import Derived.Test.YtgapnfaakdjpaaaGreatDoorIx7
namespace Go.Sx
open Go
def onAtR (P:List V3) (p f:V3):Bool:=onT axR (relV P p f.x) (relV P p f.y) (relV P p f.z)
def wndR (P F:List V3) (p d:V3):Int × Bool:=if fineB P F p d=true then (windM P F p d,true) else (0,false)
end Go.Sx
namespace Go.Proofs.YtgapnfaakdjpaaaGreatDoor
open Go Go.Sx
variable {w0:World} {As:List Ent} {pv fv:Value} {pts fcs:List V3}
end Go.Proofs.YtgapnfaakdjpaaaGreatDoor
