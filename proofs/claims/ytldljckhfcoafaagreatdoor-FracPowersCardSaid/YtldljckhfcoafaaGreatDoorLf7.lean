/- Walks: powers and sums of equal fractions, in short. -/
import Derived.Test.YtldljckhfcoafaaGreatDoorLf5
namespace Go.Sx
open Go
theorem powW_of {s : List UInt8} {x : Int} {n : Nat} (h1 : readW s = some x) (hn : n ≤ 40) (hd : Lib.nDigits (x ^ n).natAbs ≤ 600) : powW s (n : Int) = (textI (x ^ n), 0) := by
  unfold powW; rw [h1]; simp only []
  rw [if_neg (by omega), Int.toNat_natCast]
  exact outW_ok hd
theorem rat_nat (m : Nat) : mkRat (m : Int) 1 = (m : Rat) := by
  rw [Rat.mkRat_one]; rfl
end Go.Sx
namespace Go.Proofs.YtldljckhfcoafaaGreatDoor.Q
open Go Go.Sx
variable {w0 : World} {As : List Ent}
theorem powT_ok (ht : Tab w0) {r : Rat} {n : Nat} (hr : Fit 600 r) (hn : n ≤ 40) (h : Fit 600 (r ^ n)) :
    CallsS Tryz.prog w0 13 [.agg #[.string ⟨(tN r).toArray⟩, .string ⟨(tD r).toArray⟩], .int .i64 (n : Int)] As fun u Bs => u = .tuple #[.agg #[.string ⟨(tN (r ^ n)).toArray⟩, .string ⟨(tD (r ^ n)).toArray⟩], .int .i64 0] ∧ Bs = As := by
  have k := powF_ok (w0 := w0) (As := As) ht (a := tN r) (b := tD r) (n := (n : Int)) (tN_len hr) (tD_len hr) (by omega) (by omega)
  obtain ⟨g1, g2⟩ := readF_num hr.rd
  obtain ⟨d1, d2⟩ := h
  rw [Rat.num_pow] at d1
  rw [Rat.den_pow] at d2
  have e1 := powW_of g1 hn d1
  have e2 := powW_of (n := n) g2 hn (by rw [Int.natAbs_pow, Int.natAbs_natCast]; exact d2)
  have e : powO (tN r) (tD r) (n : Int) = (tN (r ^ n), tD (r ^ n), 0) := by
    unfold powO
    rw [hr.rd, e1, e2]
    simp only [tN, tD, Rat.num_pow, Rat.den_pow, Int.natCast_pow]
    rfl
  rw [e] at k
  exact k
theorem readL_rep {a : Rat} (ha : Fit 600 a) : ∀ m : Nat, readL (List.replicate m (tN a, tD a)) = some (List.replicate m a)
  | 0 => rfl
  | m + 1 => by
    rw [List.replicate_succ, readL, ha.rd, readL_rep ha m]; rfl
theorem sumT_ok (ht : Tab w0) {v : Value} {a : Rat} {m : Nat} [hr : RdIn As v (List UInt8 × List UInt8) cF (List.replicate m (tN a, tD a))] (ha : Fit 600 a) (hm : m ≤ 300) (h : Fit 600 (a * (m : Rat))) :
    CallsS Tryz.prog w0 15 [v] As fun u Bs => u = .tuple #[.agg #[.string ⟨(tN (a * (m : Rat))).toArray⟩, .string ⟨(tD (a * (m : Rat))).toArray⟩], .int .i64 0] ∧ Bs = As := by
  have k := sumF_ok (w0 := w0) (As := As) (v := v) ht (l := List.replicate m (tN a, tD a)) (by rw [List.length_replicate]; omega) (fun p hp => by rw [(List.mem_replicate.1 hp).2]; exact ⟨tN_len ha, tD_len ha⟩)
  have e : sumO (List.replicate m (tN a, tD a)) = (tN (a * (m : Rat)), tD (a * (m : Rat)), 0) := by
    unfold sumO
    rw [if_neg (by rw [List.length_replicate]; omega), readL_rep ha m]
    show outF (sumR (List.replicate m a)) = _
    rw [sumR_rep]; exact h.ot
  rw [e] at k
  exact k
end Go.Proofs.YtldljckhfcoafaaGreatDoor.Q
