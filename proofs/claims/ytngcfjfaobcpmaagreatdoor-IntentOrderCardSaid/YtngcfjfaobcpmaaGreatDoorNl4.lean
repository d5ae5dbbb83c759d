/- Walks: IntentLines. -/
import Derived.Test.YtngcfjfaobcpmaaGreatDoorNl0
import Derived.Test.YtngcfjfaobcpmaaGreatDoorNk1
import Derived.Test.YtngcfjfaobcpmaaGreatDoorNg1
set_option maxHeartbeats 1000000
namespace Go.Sx
open Go
theorem Zh1 {P F:List V3} {p:V3} (hg:Good P F) (hp:isFar p=false) (ho:anchorO P F p=none):anchorW P F p=(V3.zero,4):=by unfold anchorW;rw [if_neg (fun k=>k (Yga.2 hg)),hp,if_neg (by decide),ho]
theorem Zh0 {P F:List V3} {p c:V3} (hg:Good P F) (hp:isFar p=false) (ho:anchorO P F p=some c):anchorW P F p=(c,0):=by unfold anchorW;rw [if_neg (fun k=>k (Yga.2 hg)),hp,if_neg (by decide),ho]
theorem Yey {T U:TypeId} {R:List Ent} {a b:Value} {xs ys:List V3}:Ents (.ow cV3 T a xs::.ow cV3 U b ys::R) (.ft (rd cV3 a xs)::.ft (rd cV3 b ys)::R) :=
 Ents.trans Ents.freeze (Ents.trans (Ents.perm (List.Perm.swap _ _ _)) (Ents.trans Ents.freeze (Ents.perm (List.Perm.swap _ _ _))))
theorem Zlr:∀ a b c d f g:List UInt8,decide ((a=a∧b=b)∧(c=c∧d=d)∧(f=f∧g=g))=true:=by simp
end Go.Sx
namespace Go.Proofs.YtngcfjfaobcpmaaGreatDoor
open Go Go.Sx
variable {w0:World} {As:List Ent} {pv fv:Value} {pts fcs:List V3}
end Go.Proofs.YtngcfjfaobcpmaaGreatDoor
