/- Walks: inside: where a ray meets a face. -/
import Derived.Test.YtbfgldlfciimiaaGreatDoorIx7
import Derived.Test.YtbfgldlfciimiaaGreatDoorSxP
set_option maxHeartbeats 1000000
namespace Go.Sx
open Go
def MetR (As:List Ent) (o:Option Rat) (r:Value) (Bs:List Ent):Prop :=
 (∃ x y:List UInt8,r=.tuple #[.agg #[.string ⟨x.toArray⟩,.string ⟨y.toArray⟩],.bool o.isSome]∧∀ t,o=some t→x=tN t∧y=tD t)∧Bs=As
theorem MetR.some {As:List Ent} {t:Rat}:MetR As (some t) (.tuple #[.agg #[.string ⟨(tN t).toArray⟩,.string ⟨(tD t).toArray⟩],.bool true]) As:=⟨⟨_,_,rfl,fun s h=>by cases h;exact ⟨rfl,rfl⟩⟩,rfl⟩
theorem MetR.none {As:List Ent} {x y:List UInt8}:MetR As none (.tuple #[.agg #[.string ⟨x.toArray⟩,.string ⟨y.toArray⟩],.bool false]) As:=⟨⟨_,_,rfl,fun s h=>by cases h⟩,rfl⟩
end Go.Sx
namespace Go.Proofs.YtbfgldlfciimiaaGreatDoor
open Go Go.Sx
variable {w0:World} {As:List Ent}
end Go.Proofs.YtbfgldlfciimiaaGreatDoor
namespace Go.Sx
open Go
end Go.Sx
namespace Go.Proofs.YtbfgldlfciimiaaGreatDoor
open Go Go.Sx
variable {w0:World} {As:List Ent} {pv fv:Value} {pts fcs:List V3}
end Go.Proofs.YtbfgldlfciimiaaGreatDoor
namespace Go.Proofs.YtbfgldlfciimiaaGreatDoor
open Go Go.Sx
variable {w0:World} {As:List Ent} {pv fv:Value} {pts fcs:List V3}
end Go.Proofs.YtbfgldlfciimiaaGreatDoor
