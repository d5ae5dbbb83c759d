/- Plain: a mesh whose corners all lie on one side of a plane through a point does not wind round the point; a tetrahedron and a point, by the signs of four determinants. -/
import Derived.Test.YtgapnfaakdjpaaaGreatDoorIw1
import Derived.Test.YtgapnfaakdjpaaaGreatDoorPl
namespace Go.Sx
open Go
def HalfF (P F:List V3) (p n:V3):Prop:=∀ f∈F,0 < n.dot (relV P p f.x)∧0 < n.dot (relV P p f.y)∧0 < n.dot (relV P p f.z)
/-! the tetrahedron -/
def relB (a b c:Int):Bool:=!(decide (0 < a)&&decide (0 < b)&&decide (0 < c))&&!(decide (a < 0)&&decide (b < 0)&&decide (c < 0))
def vol4 (a b c e:V3):Int:=det3 (b.sub a) (c.sub a) (e.sub a)
variable {a b c e p:V3}
end Go.Sx
