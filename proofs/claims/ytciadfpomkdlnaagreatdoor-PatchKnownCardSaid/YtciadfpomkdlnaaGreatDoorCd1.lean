/- Walks: the reference on fractions: ratios, texts. -/
import Derived.Test.YtciadfpomkdlnaaGreatDoorCp1
import Derived.Test.YtciadfpomkdlnaaGreatDoorVb5
set_option maxHeartbeats 1000000
namespace Go.Proofs.YtciadfpomkdlnaaGreatDoor.Q
open Go Go.Sx
variable {w0:World} {As:List Ent}
end Go.Proofs.YtciadfpomkdlnaaGreatDoor.Q
namespace Go.Sx
open Go
structure D02 where
 n:D01
 d:D01
def D02.cells (x:D02):List Value:=x.n.cells++x.d.cells
def D02.ok (x:D02):Prop:=x.n.ok∧x.d.ok
theorem Fit.qud {k:Nat} {r:Rat} (h:Fit k r):(qud r.num.natAbs).length≤k∧(qud r.den).length≤k:=by
 have h1:(10:Nat) ^ k≤10000 ^ k:=Nat.pow_le_pow_left (by decide) k
 exact ⟨Za2 (Nat.lt_of_lt_of_le (Za3 h.1) h1),Za2 (Nat.lt_of_lt_of_le (Za3 h.2) h1)⟩
end Go.Sx
namespace Go.Proofs.YtciadfpomkdlnaaGreatDoor.Q
open Go Go.Sx
variable {w0:World} {As:List Ent}
end Go.Proofs.YtciadfpomkdlnaaGreatDoor.Q
