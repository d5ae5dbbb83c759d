/- Walks: InsideFirst. -/
import Derived.Test.YtngcfjfaobcpmaaGreatDoorIm1
import Derived.Test.YtngcfjfaobcpmaaGreatDoorJr1
import Derived.Test.YtngcfjfaobcpmaaGreatDoorIx9
import Derived.Test.YtngcfjfaobcpmaaGreatDoorJq1
import Derived.Test.YtngcfjfaobcpmaaGreatDoorIj1
import Derived.Test.YtngcfjfaobcpmaaGreatDoorMr1
set_option maxHeartbeats 1000000
namespace Go.Sx
open Go
theorem Z18 {P F:List V3} {p:V3} (hg:Good P F) (hp:isFar p=false):(sideW P F p).2=0:=by
 have f1:(flawM P F).1=0:=Yga.2 hg
 unfold sideW
 rw [f1,hp]
 simp only [ne_eq,not_true_eq_false,if_false,Bool.false_eq_true]
 (repeat' split)<;>rfl
end Go.Sx
namespace Go.Proofs.YtngcfjfaobcpmaaGreatDoor
open Go Go.Sx
variable {w0:World} {As:List Ent} {pv fv:Value} {pts fcs:List V3}
end Go.Proofs.YtngcfjfaobcpmaaGreatDoor
