/- Walks: the reference on whole numbers: products, powers. -/
import Derived.Test.YtciadfpomkdlnaaGreatDoorVa1
import Derived.Test.YtciadfpomkdlnaaGreatDoorPl
import Derived.Test.YtciadfpomkdlnaaGreatDoorWb1
set_option maxHeartbeats 1000000
namespace Go.Sx
open Go
end Go.Sx
namespace Go.Proofs.YtciadfpomkdlnaaGreatDoor
open Go Go.Sx
variable {w0:World} {As:List Ent}
end Go.Proofs.YtciadfpomkdlnaaGreatDoor
namespace Go.Sx
open Go
structure D01 where
 below:Bool
 gv:Value
 gs:List Nat
 zeros:Nat
def groupsD (gs:List Nat):Nat:=gs.foldl (fun n g=>n * 1000+g % 1000) 0
def D01.size (d:D01):Nat:=groupsD (d.gs.take 12) * 10 ^ (d.zeros % 501)
def D01.num (d:D01):Int:=if d.below then -(d.size:Int) else (d.size:Int)
def D01.cells (d:D01):List Value:=[.bool d.below,d.gv,.int .u16 (d.zeros:Int)]
def D01.ok (d:D01):Prop:=(∀ g∈d.gs,g≤65535)∧d.gs.length≤9223372036854775807∧d.zeros≤65535
theorem Zii {gs:List Nat} {g:Nat}:groupsD (gs++[g])=groupsD gs * 1000+g % 1000:=by simp [groupsD]
theorem Zh0 (gs:List Nat):∀ k,groupsD (gs.take k) < 1000 ^ k
 | 0=>by simp [groupsD]
 | k + 1=>by
  have ih:=Zh0 gs k
  rw [List.take_add_one]
  cases h:gs[k]? with
  | none =>
   simp only [Option.toList_none,List.append_nil]
   rw [Nat.pow_succ];omega
  | some g =>
   simp only [Option.toList_some]
   rw [Zii,Nat.pow_succ];omega
theorem Ztq {a e i j:Nat} (h1:a < 10 ^ i) (h2:e≤j):a * 10 ^ e < 10 ^ (i+j):=by
 rw [Nat.pow_add]
 exact Nat.lt_of_lt_of_le (Nat.mul_lt_mul_of_pos_right h1 (Nat.pow_pos (by omega))) (Nat.mul_le_mul_left _ (Nat.pow_le_pow_right (by omega) h2))
theorem D01.size_lt (d:D01):∃ k,k≤540∧d.size < 10 ^ k:=by
 have h1:=Zh0 d.gs 12
 have h3:(1000:Nat) ^ 12=10 ^ 36:=by rw [show (1000:Nat)=10 ^ 3 from rfl,← Nat.pow_mul]
 rw [h3] at h1
 exact ⟨36+d.zeros % 501,by omega,Ztq h1 (Nat.le_refl _)⟩
theorem D01.natAbs (d:D01):d.num.natAbs=d.size:=by unfold D01.num;split<;>simp
theorem D01.digits (d:D01):Lib.nDigits d.num.natAbs≤600:=by
 rw [d.natAbs]
 obtain ⟨k,hk,hl⟩:=d.size_lt
 rcases Nat.eq_zero_or_pos k with h0|h0
 ·subst h0
  rw [show d.size=0 by simpa using hl,Lib.nDigits_small (by decide)];omega
 ·exact Nat.le_trans (Zbg h0 hl) (by omega)
end Go.Sx
namespace Go.Proofs.YtciadfpomkdlnaaGreatDoor
open Go Go.Sx
variable {w0:World} {As:List Ent}
instance:ElC Tryz.prog 26 Nat (cN .u16) 0 2:=⟨by obtain ⟨i,h1,h2,h3,h4⟩:=(inferInstance:TI Tryz.prog 26 _ _ _).info;exact ⟨i,_,h1,h2,h3,h4,rfl⟩,by decide⟩
end Go.Proofs.YtciadfpomkdlnaaGreatDoor
namespace Go.Sx
open Go
theorem Zdj {s:List UInt8} {z:Int} (h:readW s=some z):textI z=s:=by
 have key:∀ l:List UInt8,(∀ c∈l,isDig c=true)→0 < l.length→(l[0]?=some 48→l.length=1)→Lib.decDigits (numOf l)=l:=fun l hd h0 h1=>by
  by_cases h2:l[0]?=some 48
  ·have h3:=h1 h2
   match l,h3 with
   | [c],_ =>
    simp only [List.getElem?_cons_zero,Option.some.injEq] at h2
    subst h2
    rw [show numOf [48]=0 from rfl,Zbs (by decide)];rfl
  ·exact (Zhk l.length rfl hd (by intro h;rw [h] at h0;cases h0) h2).symm
 unfold readW at h
 by_cases hp:Lib.hasPrefix s [45]=true
 ·rw [if_pos hp] at h
  split at h
  ·rename_i hc
   cases h
   have hpos:=Zee (l:=s.drop 1) hc.2.2.1 hc.1 hc.2.2.2
   rw [Zb7,if_pos (by omega),Int.natAbs_neg,Int.natAbs_natCast,key _ hc.2.2.1 hc.1 (fun h=>absurd h hc.2.2.2)]
   cases s with
   | nil=>cases hp
   | cons c r =>
    rw [Zav,decide_eq_true_eq] at hp
    rw [hp];rfl
  ·cases h
 ·rw [if_neg hp] at h
  split at h
  ·rename_i hc
   cases h
   rw [Zb7,if_neg (by omega),Int.natAbs_natCast,key _ hc.2.2.1 hc.1 hc.2.2.2]
  ·cases h
end Go.Sx
namespace Go.Proofs.YtciadfpomkdlnaaGreatDoor
open Go Go.Sx
variable {w0:World} {As:List Ent}
end Go.Proofs.YtciadfpomkdlnaaGreatDoor
namespace Go.Sx
open Go
end Go.Sx
namespace Go.Proofs.YtciadfpomkdlnaaGreatDoor
open Go Go.Sx
variable {w0:World} {As:List Ent}
end Go.Proofs.YtciadfpomkdlnaaGreatDoor
namespace Go.Proofs.YtciadfpomkdlnaaGreatDoor
open Go Go.Sx
variable {w0:World} {As:List Ent}
end Go.Proofs.YtciadfpomkdlnaaGreatDoor
