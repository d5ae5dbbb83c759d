/- Walks: the reference of the chapter on whole numbers: lists of digits. Walks: the reference of the chapter on whole numbers: comparing, texts. Walks: the reference of the chapter on whole numbers: texts read and written, sums. Walks: the reference of the chapter on whole numbers: texts are read; Of, Add. -/
import Derived.Test.YtgapnfaakdjpaaaGreatDoorWa3
import Derived.Test.YtgapnfaakdjpaaaGreatDoorPl
import Derived.Test.YtgapnfaakdjpaaaGreatDoorSxB
import Derived.Laws.IdiomStrings
import Derived.Test.YtgapnfaakdjpaaaGreatDoorWa5
namespace Go.Sx
open Go
section
variable {P:Program} {N:Ctx} {w0:World} {e:Env} {As rest:List Ent} {ty:TypeId} {x:Operand}
end
end Go.Sx
namespace Go.Proofs.YtgapnfaakdjpaaaGreatDoor
open Go Go.Sx
variable {w0:World} {As:List Ent}
instance:ElC Tryz.prog 3 Nat (cN .i64) 0 8:=⟨by obtain ⟨i,h1,h2,h3,h4⟩:=(inferInstance:TI Tryz.prog 3 _ _ _).info;exact ⟨i,_,h1,h2,h3,h4,rfl⟩,by decide⟩
def QudR (As:List Ent) (n:Nat) (v:Value) (Bs:List Ent):Prop:=∃ p cap,v=.slice p (qud n).length cap∧Bs=.ft (rd (cN .i64) v (qud n))::As
def PlainR (As:List Ent) (z:Int) (u:Value) (Bs:List Ent):Prop:=∃ p cap,u=.agg #[.bool (decide (z < 0)),.slice p (qud z.natAbs).length cap]∧Bs=.ft (rd (cN .i64) (.slice p (qud z.natAbs).length cap) (qud z.natAbs))::As
def RawR (As:List Ent) (n:Nat) (v:Value) (Bs:List Ent):Prop:=∃ xs:List Nat,valQ xs=n∧(∀ d∈xs,d < 10000)∧xs.length≤100000000∧Bs=.ow (cN .i64) 3 v xs::As
end Go.Proofs.YtgapnfaakdjpaaaGreatDoor
namespace Go.Sx
end Go.Sx
namespace Go.Proofs.YtgapnfaakdjpaaaGreatDoor
open Go Go.Sx
variable {w0:World} {As:List Ent}
end Go.Proofs.YtgapnfaakdjpaaaGreatDoor
namespace Go.Sx
theorem textI_len (z:Int):(textI z).length=Lib.nDigits z.natAbs+(if z < 0 then 1 else 0):=by
  rw [textI_eq]
  split<;>simp [dec_len]
end Go.Sx
namespace Go.Proofs.YtgapnfaakdjpaaaGreatDoor
open Go Go.Sx
variable {w0:World} {As:List Ent}
end Go.Proofs.YtgapnfaakdjpaaaGreatDoor
namespace Go.Sx
def fromW (s:List UInt8):Nat:=if s[0]?=some 45 then 1 else 0
def RightW (s:List UInt8):Prop:=0 < (s.drop (fromW s)).length∧(s.drop (fromW s)).length≤600∧(∀ c∈s.drop (fromW s),isDig c=true)∧((s.drop (fromW s))[0]?=some 48→s.length=1)
end Go.Sx
namespace Go.Proofs.YtgapnfaakdjpaaaGreatDoor
open Go Go.Sx
variable {w0:World} {As:List Ent}
end Go.Proofs.YtgapnfaakdjpaaaGreatDoor
