/- Walks: the law's helpers on whole numbers; closed answers, plain. -/
import Derived.Test.YtldljckhfcoafaaGreatDoorVb1
namespace Go.Sx
open Go
/-- a valid text is the text of its number -/
theorem text_readW {s : List UInt8} {z : Int} (h : readW s = some z) : textI z = s := by
  have key : ∀ l : List UInt8, (∀ c ∈ l, isDig c = true) → 0 < l.length → (l[0]? = some 48 → l.length = 1) → Lib.decDigits (numOf l) = l := fun l hd h0 h1 => by
    by_cases h2 : l[0]? = some 48
    · have h3 := h1 h2
      match l, h3 with
      | [c], _ =>
        simp only [List.getElem?_cons_zero, Option.some.injEq] at h2
        subst h2
        rw [show numOf [48] = 0 from rfl, dec_small (by decide)]; rfl
    · exact (dec_uniq l.length rfl hd (by intro h; rw [h] at h0; cases h0) h2).symm
  unfold readW at h
  by_cases hp : Lib.hasPrefix s [45] = true
  · rw [if_pos hp] at h
    split at h
    · rename_i hc
      cases h
      have hpos := numOf_pos (l := s.drop 1) hc.2.2.1 hc.1 hc.2.2.2
      rw [textI_eq, if_pos (by omega), Int.natAbs_neg, Int.natAbs_natCast, key _ hc.2.2.1 hc.1 (fun h => absurd h hc.2.2.2)]
      cases s with
      | nil => cases hp
      | cons c r =>
        rw [hasPrefix_minus, decide_eq_true_eq] at hp
        rw [hp]; rfl
    · cases h
  · rw [if_neg hp] at h
    split at h
    · rename_i hc
      cases h
      rw [textI_eq, if_neg (by omega), Int.natAbs_natCast, key _ hc.2.2.1 hc.1 hc.2.2.2]
    · cases h
theorem outW_of {l : List UInt8} {z : Int} (h : readW l = some z) : outW z = (l, 0) := by rw [outW_ok (readW_digits h), text_readW h]
theorem powW_lit {s l : List UInt8} {x : Int} {n : Int} (h1 : readW s = some x) (h0 : ¬ (n < 0 ∨ 40 < n)) (h3 : readW l = some (x ^ n.toNat)) : powW s n = (l, 0) := by
  unfold powW; rw [h1]; simp only []; rw [if_neg h0]; exact outW_of h3
end Go.Sx
namespace Go.Proofs.YtldljckhfcoafaaGreatDoor
open Go Go.Sx
variable {w0 : World} {As : List Ent}
end Go.Proofs.YtldljckhfcoafaaGreatDoor
