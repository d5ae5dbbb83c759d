/- Walks: comparing valid fractions, in short; plain. -/
import Derived.Test.YtldljckhfcoafaaGreatDoorLf3
namespace Go.Sx
open Go
theorem tND_inj {a b : Rat} (ha : Fit 600 a) (hb : Fit 600 b) : (tN a = tN b ∧ tD a = tD b) ↔ a = b := by
  constructor
  · rintro ⟨h1, h2⟩
    have h3 := ha.rd
    rw [h1, h2, hb.rd] at h3
    exact (Option.some.inj h3).symm
  · rintro rfl; exact ⟨rfl, rfl⟩
theorem sub_turn (a b : Rat) : b - a = -(a - b) := by
  rw [Rat.sub_eq_add_neg, Rat.sub_eq_add_neg, Rat.neg_add, Rat.neg_neg, Rat.add_comm]
theorem signI_three (z : Int) : (z < 0 → signI z = -1) ∧ (z = 0 → signI z = 0) ∧ (0 < z → signI z = 1) := by
  unfold signI
  refine ⟨fun h => ?_, fun h => ?_, fun h => ?_⟩ <;> (split <;> (try split) <;> omega)
theorem sign_sub (a b : Rat) : signI (a - b).num = ordQ a b := by
  have k1 : 0 ≤ (a - b).num ↔ b ≤ a := by rw [Rat.num_nonneg, ← Rat.le_iff_sub_nonneg]
  have k2 : 0 ≤ (b - a).num ↔ a ≤ b := by rw [Rat.num_nonneg, ← Rat.le_iff_sub_nonneg]
  rw [sub_turn a b, Rat.neg_num] at k2
  have h1 := @ordQ_lt a b
  have h2 := @ordQ_gt a b
  rw [← Rat.not_le] at h1 h2
  obtain ⟨s1, s2, s3⟩ := signI_three (a - b).num
  obtain ⟨t1, t2, t3⟩ := signI_three (a.num * (b.den : Int) - b.num * (a.den : Int))
  have e : ordQ a b = signI (a.num * (b.den : Int) - b.num * (a.den : Int)) := rfl
  rw [← e] at t1 t2 t3
  generalize ordQ a b = o at *
  generalize a.num * (b.den : Int) - b.num * (a.den : Int) = y at *
  generalize (a - b).num = z at *
  rw [← k1] at h1
  rw [← k2] at h2
  rcases Int.lt_trichotomy y 0 with hy | hy | hy
  · have := t1 hy
    rw [s1 (by omega)]; omega
  · have := t2 hy
    rw [s2 (by omega)]; omega
  · have := t3 hy
    rw [s3 (by omega)]; omega
end Go.Sx
namespace Go.Proofs.YtldljckhfcoafaaGreatDoor.Q
open Go Go.Sx
variable {w0 : World} {As : List Ent}
/-- some fraction with at most k digits above and below comes back -/
def FracS (k : Nat) (As : List Ent) (u : Value) (Bs : List Ent) : Prop := ∃ r : Rat, Fit k r ∧ u = .agg #[.string ⟨(tN r).toArray⟩, .string ⟨(tD r).toArray⟩] ∧ Bs = As
theorem fit_min {k : Nat} {x y : Rat} (hx : Fit k x) (hy : Fit k y) : Fit k (minQ x y) := by unfold minQ; split; exact hy; exact hx
theorem fit_max {k : Nat} {x y : Rat} (hx : Fit k x) (hy : Fit k y) : Fit k (maxQ x y) := by unfold maxQ; split; exact hy; exact hx
theorem fit_abs {k : Nat} {x : Rat} (hx : Fit k x) : Fit k (absQ x) := by unfold absQ; split; exact hx.neg; exact hx
theorem minT_ok (ht : Tab w0) {r s : Rat} (hr : Fit 600 r) (hs : Fit 600 s) :
    CallsS Tryz.prog w0 39 [.agg #[.string ⟨(tN r).toArray⟩, .string ⟨(tD r).toArray⟩], .agg #[.string ⟨(tN s).toArray⟩, .string ⟨(tD s).toArray⟩]] As fun u Bs => u = .tuple #[.agg #[.string ⟨(tN (minQ r s)).toArray⟩, .string ⟨(tD (minQ r s)).toArray⟩], .int .i64 0] ∧ Bs = As := by
  have k := minF_ok (w0 := w0) (As := As) ht (tN_len hr) (tD_len hr) (tN_len hs) (tD_len hs)
  rw [hr.rd, hs.rd] at k
  simp only [ap2, outO] at k
  rw [(fit_min hr hs).ot] at k
  exact k
theorem maxT_ok (ht : Tab w0) {r s : Rat} (hr : Fit 600 r) (hs : Fit 600 s) :
    CallsS Tryz.prog w0 40 [.agg #[.string ⟨(tN r).toArray⟩, .string ⟨(tD r).toArray⟩], .agg #[.string ⟨(tN s).toArray⟩, .string ⟨(tD s).toArray⟩]] As fun u Bs => u = .tuple #[.agg #[.string ⟨(tN (maxQ r s)).toArray⟩, .string ⟨(tD (maxQ r s)).toArray⟩], .int .i64 0] ∧ Bs = As := by
  have k := maxF_ok (w0 := w0) (As := As) ht (tN_len hr) (tD_len hr) (tN_len hs) (tD_len hs)
  rw [hr.rd, hs.rd] at k
  simp only [ap2, outO] at k
  rw [(fit_max hr hs).ot] at k
  exact k
theorem negT_ok (ht : Tab w0) {r : Rat} (hr : Fit 600 r) :
    CallsS Tryz.prog w0 37 [.agg #[.string ⟨(tN r).toArray⟩, .string ⟨(tD r).toArray⟩]] As fun u Bs => u = .tuple #[.agg #[.string ⟨(tN (-r)).toArray⟩, .string ⟨(tD (-r)).toArray⟩], .int .i64 0] ∧ Bs = As := by
  have k := negF_ok (w0 := w0) (As := As) ht (tN_len hr) (tD_len hr)
  rw [hr.rd] at k
  simp only [Option.map_some, outO] at k
  rw [hr.neg.ot] at k
  exact k
theorem absT_ok (ht : Tab w0) {r : Rat} (hr : Fit 600 r) :
    CallsS Tryz.prog w0 41 [.agg #[.string ⟨(tN r).toArray⟩, .string ⟨(tD r).toArray⟩]] As fun u Bs => u = .tuple #[.agg #[.string ⟨(tN (absQ r)).toArray⟩, .string ⟨(tD (absQ r)).toArray⟩], .int .i64 0] ∧ Bs = As := by
  have k := absF_ok (w0 := w0) (As := As) ht (tN_len hr) (tD_len hr)
  rw [hr.rd] at k
  simp only [Option.map_some, outO] at k
  rw [(fit_abs hr).ot] at k
  exact k
theorem cmpT_ok {r s : Rat} (hr : Fit 600 r) (hs : Fit 600 s) :
    CallsS Tryz.prog w0 35 [.agg #[.string ⟨(tN r).toArray⟩, .string ⟨(tD r).toArray⟩], .agg #[.string ⟨(tN s).toArray⟩, .string ⟨(tD s).toArray⟩]] As fun u Bs => u = .tuple #[.int .i64 (ordQ r s), .int .i64 0] ∧ Bs = As := by
  have k := cmpF_ok (w0 := w0) (As := As) (tN_len hr) (tD_len hr) (tN_len hs) (tD_len hs)
  rw [hr.rd, hs.rd] at k
  exact k
theorem signT_ok {r : Rat} (hr : Fit 600 r) :
    CallsS Tryz.prog w0 38 [.agg #[.string ⟨(tN r).toArray⟩, .string ⟨(tD r).toArray⟩]] As fun u Bs => u = .tuple #[.int .i64 (signI r.num), .int .i64 0] ∧ Bs = As := by
  have k := signF_ok (w0 := w0) (As := As) (tN_len hr) (tD_len hr)
  rw [hr.rd] at k
  exact k
theorem clampT_ok (ht : Tab w0) {r s t : Rat} (hr : Fit 600 r) (hs : Fit 600 s) (h3 : Fit 600 t) (h0 : ¬ t < s) :
    CallsS Tryz.prog w0 42 [.agg #[.string ⟨(tN r).toArray⟩, .string ⟨(tD r).toArray⟩], .agg #[.string ⟨(tN s).toArray⟩, .string ⟨(tD s).toArray⟩], .agg #[.string ⟨(tN t).toArray⟩, .string ⟨(tD t).toArray⟩]] As
      fun u Bs => u = .tuple #[.agg #[.string ⟨(tN (minQ (maxQ r s) t)).toArray⟩, .string ⟨(tD (minQ (maxQ r s) t)).toArray⟩], .int .i64 0] ∧ Bs = As := by
  have k := clampF_ok (w0 := w0) (As := As) ht (tN_len hr) (tD_len hr) (tN_len hs) (tD_len hs) (tN_len h3) (tD_len h3)
  rw [hr.rd, hs.rd, h3.rd] at k
  simp only [clampO] at k
  rw [if_neg h0, (fit_min (fit_max hr hs) h3).ot] at k
  exact k
/-- a fraction of small integers -/
theorem qT_ok (ht : Tab w0) {n d : Int} {r : Rat} (hn : -9223372036854775808 ≤ n ∧ n ≤ 9223372036854775807) (hd : 0 < d ∧ d ≤ 9223372036854775807) (hr : mkRat n d.toNat = r) (hf : Fit 600 r) :
    CallsS Tryz.prog w0 28 [.int .i64 n, .int .i64 d] As fun u Bs => u = .agg #[.string ⟨(tN r).toArray⟩, .string ⟨(tD r).toArray⟩] ∧ Bs = As := by
  have k := q_ok (w0 := w0) (As := As) ht (n := n) (d := d) hn (by omega)
  have e : ofO n d = (tN r, tD r, 0) := by
    unfold ofO
    rw [if_neg (by omega), if_neg (by omega), show d.natAbs = d.toNat by omega, hr]
    exact hf.ot
  rw [e] at k
  exact k
end Go.Proofs.YtldljckhfcoafaaGreatDoor.Q
