/- Walks: the measures of a mesh: the Euler number, the box. -/
import Derived.Test.YtgapnfaakdjpaaaGreatDoorMa6
import Derived.Test.YtgapnfaakdjpaaaGreatDoorPl
import Derived.Test.YtgapnfaakdjpaaaGreatDoorWa5
namespace Go.Proofs.YtgapnfaakdjpaaaGreatDoor
open Go Go.Sx
variable {w0:World} {As:List Ent} {pv fv:Value} {pts fcs:List V3}
end Go.Proofs.YtgapnfaakdjpaaaGreatDoor
namespace Go.Proofs.YtgapnfaakdjpaaaGreatDoor
open Go Go.Sx
variable {w0:World} {As:List Ent} {pv fv:Value} {pts fcs:List V3}
def MeshR (As:List Ent) (r:Int × List V3 × List V3) (v:Value) (Bs:List Ent):Prop:=∃ pv fv,v=.tuple #[.agg #[pv,fv],.int .i64 r.1]∧pv.oneCell'=true∧fv.oneCell'=true∧Bs=.ow cV3 31 pv r.2.1::.ow cV3 31 fv r.2.2::As
theorem meshR_none {r:Int}:∃ As',MeshR As (r,[],[]) (.tuple #[.agg #[.slice none 0 0,.slice none 0 0],.int .i64 r]) As'∧Ents As As' :=
  ⟨_,⟨_,_,rfl,rfl,rfl,rfl⟩,Ents.trans (Ents.nilW cV3) (Ents.nilW cV3)⟩
end Go.Proofs.YtgapnfaakdjpaaaGreatDoor
namespace Go.Proofs.YtgapnfaakdjpaaaGreatDoor
open Go Go.Sx
variable {w0:World} {As:List Ent} {pv fv:Value} {pts fcs:List V3}
end Go.Proofs.YtgapnfaakdjpaaaGreatDoor
namespace Go.Proofs.YtgapnfaakdjpaaaGreatDoor
open Go Go.Sx
variable {w0:World} {As:List Ent} {pv fv:Value} {pts fcs:List V3}
end Go.Proofs.YtgapnfaakdjpaaaGreatDoor
