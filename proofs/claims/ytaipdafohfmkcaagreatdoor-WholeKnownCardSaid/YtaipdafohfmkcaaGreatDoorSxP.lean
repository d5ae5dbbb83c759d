/- The engine: range over a map that is ours. -/
import Derived.Test.YtaipdafohfmkcaaGreatDoorSx8
import Derived.Maps.RangeRun
import Derived.Test.YtaipdafohfmkcaaGreatDoorSx9
import Derived.Laws.RangeAny
set_option maxHeartbeats 1000000
namespace Go.Sx
open Go
set_option linter.unusedSectionVars false
section
variable {κ ν:Type} [DecidableEq κ] {P:Program} {N:Ctx} {w0:World} {e:Env} {As rest:List Ent} {ty:TypeId} {x:Operand} {ck:κ→Value} {cv:ν→Value}
end
end Go.Sx
namespace Go.Sx
open Go
section
variable {P:Program} {N:Ctx} {w0:World} {e:Env} {As rest:List Ent} {ty:TypeId} {x:Operand}
theorem Ze1 {t:TypeId} {l:List UInt8} {lo hi:Nat} {a b:Option Operand} [UL P t .string] (hx:ev e x=some (.string ⟨l.toArray⟩)) (hl:evLo e a lo) (hh:evHi e l.length b hi) (h1:lo≤hi) (h2:hi≤l.length) :
  ExF P N w0 (.slice t x a b none) ty e As (.string ⟨((l.drop lo).take (hi - lo)).toArray⟩):=by
 unfold ExF
 intro ac w ha hs d pos af g
 have h3:(⟨l.toArray⟩:ByteArray).extract lo hi=⟨((l.drop lo).take (hi - lo)).toArray⟩:=Lib.extract_eq _ lo hi
 have hsz:(⟨l.toArray⟩:ByteArray).size=l.length:=size_toArray l
 have hrun:∀ (lo' hi':Option Value),((lo'=none∧lo=0)∨∃ k,lo'=some (.int k (lo:Int)))→((hi'=none∧hi=l.length)∨∃ k,hi'=some (.int k (hi:Int)))→(Instr.sliceAt t (.string ⟨l.toArray⟩) lo' hi' none).run P w=.ok (.string ⟨((l.drop lo).take (hi - lo)).toArray⟩) w:=by
  intro lo' hi' hl hh
  rcases hl with ⟨rfl,rfl⟩|⟨k,rfl⟩<;>rcases hh with ⟨rfl,rfl⟩|⟨k',rfl⟩<;>simp only [Instr.sliceAt,Instr.slice,Instr.sliceBounds,Instr.sliceBound,asIntOf,Sem.run_bind,Zam,Result.andThen_ok,hsz]<;>simp [h1,h2,h3]
 simp [execOp,ha.eval hx,hrun _ _ (hl.run ha) (hh.run ha)]
end
end Go.Sx
