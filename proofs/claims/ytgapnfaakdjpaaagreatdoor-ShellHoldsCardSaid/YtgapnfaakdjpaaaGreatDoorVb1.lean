/- Walks: the reference on whole numbers: products, powers. Walks: the reference on whole numbers: drafts. Walks: the law's helpers on whole numbers; closed answers, plain. -/
import Derived.Test.YtgapnfaakdjpaaaGreatDoorVa1
import Derived.Test.YtgapnfaakdjpaaaGreatDoorPl
import Derived.Test.YtgapnfaakdjpaaaGreatDoorWb1
namespace Go.Sx
open Go
end Go.Sx
namespace Go.Proofs.YtgapnfaakdjpaaaGreatDoor
open Go Go.Sx
variable {w0:World} {As:List Ent}
end Go.Proofs.YtgapnfaakdjpaaaGreatDoor
namespace Go.Sx
open Go
structure D01 where
  below:Bool
  gv:Value
  gs:List Nat
  zeros:Nat
def groupsD (gs:List Nat):Nat:=gs.foldl (fun n g=>n * 1000+g % 1000) 0
def D01.size (d:D01):Nat:=groupsD (d.gs.take 12) * 10 ^ (d.zeros % 501)
def D01.num (d:D01):Int:=if d.below then -(d.size:Int) else (d.size:Int)
def D01.cells (d:D01):List Value:=[.bool d.below,d.gv,.int .u16 (d.zeros:Int)]
def D01.ok (d:D01):Prop:=(∀ g∈d.gs,g≤65535)∧d.gs.length≤9223372036854775807∧d.zeros≤65535
theorem groupsD_snoc {gs:List Nat} {g:Nat}:groupsD (gs++[g])=groupsD gs * 1000+g % 1000:=by simp [groupsD]
theorem groupsD_lt (gs:List Nat):∀ k,groupsD (gs.take k) < 1000 ^ k
  | 0=>by simp [groupsD]
  | k + 1=>by
    have ih:=groupsD_lt gs k
    rw [List.take_add_one]
    cases h:gs[k]? with
    | none =>
      simp only [Option.toList_none,List.append_nil]
      rw [Nat.pow_succ];omega
    | some g =>
      simp only [Option.toList_some]
      rw [groupsD_snoc,Nat.pow_succ];omega
theorem mul_ten_lt {a e i j:Nat} (h1:a < 10 ^ i) (h2:e≤j):a * 10 ^ e < 10 ^ (i+j):=by
  rw [Nat.pow_add]
  exact Nat.lt_of_lt_of_le (Nat.mul_lt_mul_of_pos_right h1 (Nat.pow_pos (by omega))) (Nat.mul_le_mul_left _ (Nat.pow_le_pow_right (by omega) h2))
theorem D01.size_lt (d:D01):∃ k,k≤540∧d.size < 10 ^ k:=by
  have h1:=groupsD_lt d.gs 12
  have h3:(1000:Nat) ^ 12=10 ^ 36:=by rw [show (1000:Nat)=10 ^ 3 from rfl,← Nat.pow_mul]
  rw [h3] at h1
  exact ⟨36+d.zeros % 501,by omega,mul_ten_lt h1 (Nat.le_refl _)⟩
theorem D01.natAbs (d:D01):d.num.natAbs=d.size:=by unfold D01.num;split<;>simp
theorem D01.digits (d:D01):Lib.nDigits d.num.natAbs≤600:=by
  rw [d.natAbs]
  obtain ⟨k,hk,hl⟩:=d.size_lt
  rcases Nat.eq_zero_or_pos k with h0|h0
  · subst h0
    rw [show d.size=0 by simpa using hl,Lib.nDigits_small (by decide)];omega
  · exact Nat.le_trans (nDigits_lt h0 hl) (by omega)
end Go.Sx
namespace Go.Proofs.YtgapnfaakdjpaaaGreatDoor
open Go Go.Sx
variable {w0:World} {As:List Ent}
instance:ElC Tryz.prog 70 Nat (cN .u16) 0 2:=⟨by obtain ⟨i,h1,h2,h3,h4⟩:=(inferInstance:TI Tryz.prog 70 _ _ _).info;exact ⟨i,_,h1,h2,h3,h4,rfl⟩,by decide⟩
end Go.Proofs.YtgapnfaakdjpaaaGreatDoor
namespace Go.Sx
open Go
end Go.Sx
namespace Go.Proofs.YtgapnfaakdjpaaaGreatDoor
open Go Go.Sx
variable {w0:World} {As:List Ent}
end Go.Proofs.YtgapnfaakdjpaaaGreatDoor
