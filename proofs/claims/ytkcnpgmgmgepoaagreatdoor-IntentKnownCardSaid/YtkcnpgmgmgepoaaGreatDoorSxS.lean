/- The engine: range over a map that is ours. -/
import Derived.Test.YtkcnpgmgmgepoaaGreatDoorSx8
import Derived.Maps.RangeRun
import Derived.Test.YtkcnpgmgmgepoaaGreatDoorSx9
import Derived.Laws.RangeAny
import Derived.Test.YtkcnpgmgmgepoaaGreatDoorSxA
namespace Go.Sx
open Go
set_option linter.unusedSectionVars false
def toCome (n:Nat) (S:List Nat):Nat:=((List.range n).filter fun i=>!S.contains i).length
def iterO (b n:Nat) (S:List Nat):Obj:=.mapIter (some b) n S.toArray n
section
variable {κ ν:Type} [DecidableEq κ] {P:Program} {N:Ctx} {w0:World} {e:Env} {As rest:List Ent} {ty:TypeId} {x:Operand} {ck:κ→Value} {cv:ν→Value}
end
end Go.Sx
namespace Go.Sx
open Go
section
variable {P:Program} {N:Ctx} {w0:World} {e:Env} {As rest:List Ent} {ty:TypeId} {x:Operand}
theorem ExF.sliceStr {t:TypeId} {l:List UInt8} {lo hi:Nat} {a b:Option Operand} [UL P t .string] (hx:ev e x=some (.string ⟨l.toArray⟩)) (hl:evLo e a lo) (hh:evHi e l.length b hi) (h1:lo≤hi) (h2:hi≤l.length) :
  ExF P N w0 (.slice t x a b none) ty e As (.string ⟨((l.drop lo).take (hi - lo)).toArray⟩):=by
 unfold ExF
 intro ac w ha hs d pos af g
 have h3:(⟨l.toArray⟩:ByteArray).extract lo hi=⟨((l.drop lo).take (hi - lo)).toArray⟩:=Lib.extract_eq _ lo hi
 have hsz:(⟨l.toArray⟩:ByteArray).size=l.length:=size_toArray l
 have hrun:∀ (lo' hi':Option Value),((lo'=none∧lo=0)∨∃ k,lo'=some (.int k (lo:Int)))→((hi'=none∧hi=l.length)∨∃ k,hi'=some (.int k (hi:Int)))→(Instr.sliceAt t (.string ⟨l.toArray⟩) lo' hi' none).run P w=.ok (.string ⟨((l.drop lo).take (hi - lo)).toArray⟩) w:=by
  intro lo' hi' hl hh
  rcases hl with ⟨rfl,rfl⟩|⟨k,rfl⟩<;>rcases hh with ⟨rfl,rfl⟩|⟨k',rfl⟩<;>simp only [Instr.sliceAt,Instr.slice,Instr.sliceBounds,Instr.sliceBound,asIntOf,Sem.run_bind,run_und,Result.andThen_ok,hsz]<;>simp [h1,h2,h3]
 simp [execOp,ha.eval hx,hrun _ _ (hl.run ha) (hh.run ha)]
end
end Go.Sx
namespace Go.Sx
open Go
class TwoS (P:Program) (t:TypeId):Prop where
 h : ∃ (f g : Field) (ts us : TypeId), P.underlying t = some (.struct #[f, g]) ∧ f.name ≠ "_" ∧ g.name ≠ "_" ∧ f.offset = 0 ∧ g.offset = 1 ∧ f.type = ts ∧ g.type = us ∧ P.underlying ts = some .string ∧ P.underlying us = some .string
 h1:P.eqGuardType P.depth t=false
 h2:P.stoodInHeld t=false
section
variable {P:Program} {N:Ctx} {w0:World} {e:Env} {As:List Ent} {ty:TypeId} {x y:Operand} {w:World}
theorem run_eqS2 {t:TypeId} [UL P t .string] (d:Nat) (a b:List UInt8):(Op.equalIn (d+1) t (.string ⟨a.toArray⟩) (.string ⟨b.toArray⟩)).run P w=.ok (decide (a=b)) w:=by
 have h:((⟨a.toArray⟩:ByteArray) == ⟨b.toArray⟩)=decide (a=b):=by
  show (a.toArray == b.toArray)=decide (a=b)
  rw [Bool.eq_iff_iff,beq_iff_eq,decide_eq_true_eq]
  constructor
  ·intro h
   have:=congrArg Array.toList h
   simpa using this
  ·rintro rfl;rfl
 simp [Op.equalIn,run_und,h]
theorem run_partS2 {t:TypeId} [UL P t .string] (cs:Array Value) (i:Nat) {v:Value} (h:cs[i]?=some v):(part t cs i).run P w=.ok v w:=by
 simp [part,run_agg,aggB,h]
end
end Go.Sx
