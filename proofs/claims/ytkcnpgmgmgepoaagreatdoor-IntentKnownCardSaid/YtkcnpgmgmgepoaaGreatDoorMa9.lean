/- Walks: the measures of a mesh: the Euler number, the box. -/
import Derived.Test.YtkcnpgmgmgepoaaGreatDoorMa6
import Derived.Test.YtkcnpgmgmgepoaaGreatDoorPl
import Derived.Test.YtkcnpgmgmgepoaaGreatDoorWa5
namespace Go.Proofs.YtkcnpgmgmgepoaaGreatDoor
open Go Go.Sx
variable {w0:World} {As:List Ent} {pv fv:Value} {pts fcs:List V3}
end Go.Proofs.YtkcnpgmgmgepoaaGreatDoor
namespace Go.Proofs.YtkcnpgmgmgepoaaGreatDoor
open Go Go.Sx
variable {w0:World} {As:List Ent} {pv fv:Value} {pts fcs:List V3}
def MeshR (As:List Ent) (r:Int × List V3 × List V3) (v:Value) (Bs:List Ent):Prop:=∃ pv fv,v=.tuple #[.agg #[pv,fv],.int .i64 r.1]∧pv.oneCell'=true∧fv.oneCell'=true∧Bs=.ow cV3 32 pv r.2.1::.ow cV3 32 fv r.2.2::As
end Go.Proofs.YtkcnpgmgmgepoaaGreatDoor
namespace Go.Proofs.YtkcnpgmgmgepoaaGreatDoor
open Go Go.Sx
variable {w0:World} {As:List Ent} {pv fv:Value} {pts fcs:List V3}
end Go.Proofs.YtkcnpgmgmgepoaaGreatDoor
namespace Go.Proofs.YtkcnpgmgmgepoaaGreatDoor
open Go Go.Sx
variable {w0:World} {As:List Ent} {pv fv:Value} {pts fcs:List V3}
end Go.Proofs.YtkcnpgmgmgepoaaGreatDoor
