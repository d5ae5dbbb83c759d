/- Walks: the reference of the chapter on meshes: its small functions. Walks: the reference of the chapter on meshes: the shapes. Walks: the reference of the chapter on meshes: the flaw. Walks: the reference of the chapter on meshes: a mesh turned inside out, a mesh moved. -/
import Derived.Test.YtgapnfaakdjpaaaGreatDoorMa9
import Derived.Test.YtgapnfaakdjpaaaGreatDoorPl
namespace Go.Proofs.YtgapnfaakdjpaaaGreatDoor
open Go Go.Sx
variable {w0:World} {As:List Ent} {pv fv:Value} {pts fcs:List V3}
end Go.Proofs.YtgapnfaakdjpaaaGreatDoor
namespace Go.Proofs.YtgapnfaakdjpaaaGreatDoor
open Go Go.Sx
variable {w0:World} {As:List Ent} {pv fv:Value} {pts fcs:List V3}
def shapesM (pts fcs:List V3):Nat × Nat :=
  if pts.length < 4∨300 < pts.length then (1,0)
  else if fcs.length < 4∨600 < fcs.length then (1,1)
  else firstOf [farF pts,wrongF pts.length fcs,flatF pts fcs] 2
end Go.Proofs.YtgapnfaakdjpaaaGreatDoor
namespace Go.Proofs.YtgapnfaakdjpaaaGreatDoor
open Go Go.Sx
variable {w0:World} {As:List Ent} {pv fv:Value} {pts fcs:List V3}
end Go.Proofs.YtgapnfaakdjpaaaGreatDoor
namespace Go.Proofs.YtgapnfaakdjpaaaGreatDoor
open Go Go.Sx
variable {w0:World} {As:List Ent} {pv fv:Value} {pts fcs:List V3}
end Go.Proofs.YtgapnfaakdjpaaaGreatDoor
