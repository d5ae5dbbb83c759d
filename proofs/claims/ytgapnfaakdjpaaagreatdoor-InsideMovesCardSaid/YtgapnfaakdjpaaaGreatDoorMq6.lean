/- Meshes, plain: what a moved mesh is, and its box. -/
import Derived.Test.YtgapnfaakdjpaaaGreatDoorMq5
namespace Go.Sx
open Go
theorem swap_back {l:List V3}:(l.map swapF).map swapF=l:=by
  rw [List.map_map]
  have:(swapF ∘ swapF:V3→V3)=id:=by
    funext p
    rfl
  rw [this,List.map_id]
end Go.Sx
