/- The engine: range over a map that is ours. -/
import Derived.Test.YtldljckhfcoafaaGreatDoorSx6
import Derived.Test.YtldljckhfcoafaaGreatDoorSx7
import Derived.Maps.RangeRun
namespace Go.Sx
open Go
set_option linter.unusedSectionVars false
/-- the entries of a map of n keys that are still to come -/
def toCome (n : Nat) (S : List Nat) : Nat := ((List.range n).filter fun i => !S.contains i).length
def iterO (b n : Nat) (S : List Nat) : Obj := .mapIter (some b) n S.toArray n
section
variable {κ ν : Type} [DecidableEq κ] {P : Program} {N : Ctx} {w0 : World} {e : Env} {As rest : List Ent} {ty : TypeId} {x : Operand} {ck : κ → Value} {cv : ν → Value}
end
end Go.Sx
