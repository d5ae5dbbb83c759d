/- Walks: comparing valid fractions, in short; plain. Walks: powers and sums of equal fractions, in short. Walks: floors, nearest numbers and texts of valid fractions, in short. -/
import Derived.Test.YtldljckhfcoafaaGreatDoorLf3
import Derived.Test.YtldljckhfcoafaaGreatDoorCp3
namespace Go.Sx
open Go
theorem tND_inj {a b : Rat} (ha : Fit 600 a) (hb : Fit 600 b) : (tN a = tN b ∧ tD a = tD b) ↔ a = b := by
  constructor
  · rintro ⟨h1, h2⟩
    have h3 := ha.rd
    rw [h1, h2, hb.rd] at h3
    exact (Option.some.inj h3).symm
  · rintro rfl; exact ⟨rfl, rfl⟩
theorem sub_turn (a b : Rat) : b - a = -(a - b) := by
  rw [Rat.sub_eq_add_neg, Rat.sub_eq_add_neg, Rat.neg_add, Rat.neg_neg, Rat.add_comm]
theorem signI_three (z : Int) : (z < 0 → signI z = -1) ∧ (z = 0 → signI z = 0) ∧ (0 < z → signI z = 1) := by
  unfold signI
  refine ⟨fun h => ?_, fun h => ?_, fun h => ?_⟩ <;> (split <;> (try split) <;> omega)
theorem sign_sub (a b : Rat) : signI (a - b).num = ordQ a b := by
  have k1 : 0 ≤ (a - b).num ↔ b ≤ a := by rw [Rat.num_nonneg, ← Rat.le_iff_sub_nonneg]
  have k2 : 0 ≤ (b - a).num ↔ a ≤ b := by rw [Rat.num_nonneg, ← Rat.le_iff_sub_nonneg]
  rw [sub_turn a b, Rat.neg_num] at k2
  have h1 := @ordQ_lt a b
  have h2 := @ordQ_gt a b
  rw [← Rat.not_le] at h1 h2
  obtain ⟨s1, s2, s3⟩ := signI_three (a - b).num
  obtain ⟨t1, t2, t3⟩ := signI_three (a.num * (b.den : Int) - b.num * (a.den : Int))
  have e : ordQ a b = signI (a.num * (b.den : Int) - b.num * (a.den : Int)) := rfl
  rw [← e] at t1 t2 t3
  generalize ordQ a b = o at *
  generalize a.num * (b.den : Int) - b.num * (a.den : Int) = y at *
  generalize (a - b).num = z at *
  rw [← k1] at h1
  rw [← k2] at h2
  rcases Int.lt_trichotomy y 0 with hy | hy | hy
  · have := t1 hy
    rw [s1 (by omega)]; omega
  · have := t2 hy
    rw [s2 (by omega)]; omega
  · have := t3 hy
    rw [s3 (by omega)]; omega
end Go.Sx
namespace Go.Proofs.YtldljckhfcoafaaGreatDoor.Q
open Go Go.Sx
variable {w0 : World} {As : List Ent}
/-- some fraction with at most k digits above and below comes back -/
def FracS (k : Nat) (As : List Ent) (u : Value) (Bs : List Ent) : Prop := ∃ r : Rat, Fit k r ∧ u = .agg #[.string ⟨(tN r).toArray⟩, .string ⟨(tD r).toArray⟩] ∧ Bs = As
theorem fit_min {k : Nat} {x y : Rat} (hx : Fit k x) (hy : Fit k y) : Fit k (minQ x y) := by unfold minQ; split; exact hy; exact hx
theorem fit_max {k : Nat} {x y : Rat} (hx : Fit k x) (hy : Fit k y) : Fit k (maxQ x y) := by unfold maxQ; split; exact hy; exact hx
theorem fit_abs {k : Nat} {x : Rat} (hx : Fit k x) : Fit k (absQ x) := by unfold absQ; split; exact hx.neg; exact hx
theorem minT_ok (ht : Tab w0) {r s : Rat} (hr : Fit 600 r) (hs : Fit 600 s) :
    CallsS Tryz.prog w0 39 [.agg #[.string ⟨(tN r).toArray⟩, .string ⟨(tD r).toArray⟩], .agg #[.string ⟨(tN s).toArray⟩, .string ⟨(tD s).toArray⟩]] As fun u Bs => u = .tuple #[.agg #[.string ⟨(tN (minQ r s)).toArray⟩, .string ⟨(tD (minQ r s)).toArray⟩], .int .i64 0] ∧ Bs = As := by
  have k := minF_ok (w0 := w0) (As := As) ht (tN_len hr) (tD_len hr) (tN_len hs) (tD_len hs)
  rw [hr.rd, hs.rd] at k
  simp only [ap2, outO] at k
  rw [(fit_min hr hs).ot] at k
  exact k
theorem maxT_ok (ht : Tab w0) {r s : Rat} (hr : Fit 600 r) (hs : Fit 600 s) :
    CallsS Tryz.prog w0 40 [.agg #[.string ⟨(tN r).toArray⟩, .string ⟨(tD r).toArray⟩], .agg #[.string ⟨(tN s).toArray⟩, .string ⟨(tD s).toArray⟩]] As fun u Bs => u = .tuple #[.agg #[.string ⟨(tN (maxQ r s)).toArray⟩, .string ⟨(tD (maxQ r s)).toArray⟩], .int .i64 0] ∧ Bs = As := by
  have k := maxF_ok (w0 := w0) (As := As) ht (tN_len hr) (tD_len hr) (tN_len hs) (tD_len hs)
  rw [hr.rd, hs.rd] at k
  simp only [ap2, outO] at k
  rw [(fit_max hr hs).ot] at k
  exact k
theorem negT_ok (ht : Tab w0) {r : Rat} (hr : Fit 600 r) :
    CallsS Tryz.prog w0 37 [.agg #[.string ⟨(tN r).toArray⟩, .string ⟨(tD r).toArray⟩]] As fun u Bs => u = .tuple #[.agg #[.string ⟨(tN (-r)).toArray⟩, .string ⟨(tD (-r)).toArray⟩], .int .i64 0] ∧ Bs = As := by
  have k := negF_ok (w0 := w0) (As := As) ht (tN_len hr) (tD_len hr)
  rw [hr.rd] at k
  simp only [Option.map_some, outO] at k
  rw [hr.neg.ot] at k
  exact k
theorem absT_ok (ht : Tab w0) {r : Rat} (hr : Fit 600 r) :
    CallsS Tryz.prog w0 41 [.agg #[.string ⟨(tN r).toArray⟩, .string ⟨(tD r).toArray⟩]] As fun u Bs => u = .tuple #[.agg #[.string ⟨(tN (absQ r)).toArray⟩, .string ⟨(tD (absQ r)).toArray⟩], .int .i64 0] ∧ Bs = As := by
  have k := absF_ok (w0 := w0) (As := As) ht (tN_len hr) (tD_len hr)
  rw [hr.rd] at k
  simp only [Option.map_some, outO] at k
  rw [(fit_abs hr).ot] at k
  exact k
theorem cmpT_ok {r s : Rat} (hr : Fit 600 r) (hs : Fit 600 s) :
    CallsS Tryz.prog w0 35 [.agg #[.string ⟨(tN r).toArray⟩, .string ⟨(tD r).toArray⟩], .agg #[.string ⟨(tN s).toArray⟩, .string ⟨(tD s).toArray⟩]] As fun u Bs => u = .tuple #[.int .i64 (ordQ r s), .int .i64 0] ∧ Bs = As := by
  have k := cmpF_ok (w0 := w0) (As := As) (tN_len hr) (tD_len hr) (tN_len hs) (tD_len hs)
  rw [hr.rd, hs.rd] at k
  exact k
theorem signT_ok {r : Rat} (hr : Fit 600 r) :
    CallsS Tryz.prog w0 38 [.agg #[.string ⟨(tN r).toArray⟩, .string ⟨(tD r).toArray⟩]] As fun u Bs => u = .tuple #[.int .i64 (signI r.num), .int .i64 0] ∧ Bs = As := by
  have k := signF_ok (w0 := w0) (As := As) (tN_len hr) (tD_len hr)
  rw [hr.rd] at k
  exact k
theorem clampT_ok (ht : Tab w0) {r s t : Rat} (hr : Fit 600 r) (hs : Fit 600 s) (h3 : Fit 600 t) (h0 : ¬ t < s) :
    CallsS Tryz.prog w0 42 [.agg #[.string ⟨(tN r).toArray⟩, .string ⟨(tD r).toArray⟩], .agg #[.string ⟨(tN s).toArray⟩, .string ⟨(tD s).toArray⟩], .agg #[.string ⟨(tN t).toArray⟩, .string ⟨(tD t).toArray⟩]] As
      fun u Bs => u = .tuple #[.agg #[.string ⟨(tN (minQ (maxQ r s) t)).toArray⟩, .string ⟨(tD (minQ (maxQ r s) t)).toArray⟩], .int .i64 0] ∧ Bs = As := by
  have k := clampF_ok (w0 := w0) (As := As) ht (tN_len hr) (tD_len hr) (tN_len hs) (tD_len hs) (tN_len h3) (tD_len h3)
  rw [hr.rd, hs.rd, h3.rd] at k
  simp only [clampO] at k
  rw [if_neg h0, (fit_min (fit_max hr hs) h3).ot] at k
  exact k
/-- a fraction of small integers -/
theorem qT_ok (ht : Tab w0) {n d : Int} {r : Rat} (hn : -9223372036854775808 ≤ n ∧ n ≤ 9223372036854775807) (hd : 0 < d ∧ d ≤ 9223372036854775807) (hr : mkRat n d.toNat = r) (hf : Fit 600 r) :
    CallsS Tryz.prog w0 28 [.int .i64 n, .int .i64 d] As fun u Bs => u = .agg #[.string ⟨(tN r).toArray⟩, .string ⟨(tD r).toArray⟩] ∧ Bs = As := by
  have k := q_ok (w0 := w0) (As := As) ht (n := n) (d := d) hn (by omega)
  have e : ofO n d = (tN r, tD r, 0) := by
    unfold ofO
    rw [if_neg (by omega), if_neg (by omega), show d.natAbs = d.toNat by omega, hr]
    exact hf.ot
  rw [e] at k
  exact k
end Go.Proofs.YtldljckhfcoafaaGreatDoor.Q
namespace Go.Sx
open Go
theorem powW_of {s : List UInt8} {x : Int} {n : Nat} (h1 : readW s = some x) (hn : n ≤ 40) (hd : Lib.nDigits (x ^ n).natAbs ≤ 600) : powW s (n : Int) = (textI (x ^ n), 0) := by
  unfold powW; rw [h1]; simp only []
  rw [if_neg (by omega), Int.toNat_natCast]
  exact outW_ok hd
theorem rat_nat (m : Nat) : mkRat (m : Int) 1 = (m : Rat) := by
  rw [Rat.mkRat_one]; rfl
end Go.Sx
namespace Go.Proofs.YtldljckhfcoafaaGreatDoor.Q
open Go Go.Sx
variable {w0 : World} {As : List Ent}
theorem powT_ok (ht : Tab w0) {r : Rat} {n : Nat} (hr : Fit 600 r) (hn : n ≤ 40) (h : Fit 600 (r ^ n)) :
    CallsS Tryz.prog w0 13 [.agg #[.string ⟨(tN r).toArray⟩, .string ⟨(tD r).toArray⟩], .int .i64 (n : Int)] As fun u Bs => u = .tuple #[.agg #[.string ⟨(tN (r ^ n)).toArray⟩, .string ⟨(tD (r ^ n)).toArray⟩], .int .i64 0] ∧ Bs = As := by
  have k := powF_ok (w0 := w0) (As := As) ht (a := tN r) (b := tD r) (n := (n : Int)) (tN_len hr) (tD_len hr) (by omega) (by omega)
  obtain ⟨g1, g2⟩ := readF_num hr.rd
  obtain ⟨d1, d2⟩ := h
  rw [Rat.num_pow] at d1
  rw [Rat.den_pow] at d2
  have e1 := powW_of g1 hn d1
  have e2 := powW_of (n := n) g2 hn (by rw [Int.natAbs_pow, Int.natAbs_natCast]; exact d2)
  have e : powO (tN r) (tD r) (n : Int) = (tN (r ^ n), tD (r ^ n), 0) := by
    unfold powO
    rw [hr.rd, e1, e2]
    simp only [tN, tD, Rat.num_pow, Rat.den_pow, Int.natCast_pow]
    rfl
  rw [e] at k
  exact k
theorem readL_rep {a : Rat} (ha : Fit 600 a) : ∀ m : Nat, readL (List.replicate m (tN a, tD a)) = some (List.replicate m a)
  | 0 => rfl
  | m + 1 => by
    rw [List.replicate_succ, readL, ha.rd, readL_rep ha m]; rfl
theorem sumT_ok (ht : Tab w0) {v : Value} {a : Rat} {m : Nat} [hr : RdIn As v (List UInt8 × List UInt8) cF (List.replicate m (tN a, tD a))] (ha : Fit 600 a) (hm : m ≤ 300) (h : Fit 600 (a * (m : Rat))) :
    CallsS Tryz.prog w0 15 [v] As fun u Bs => u = .tuple #[.agg #[.string ⟨(tN (a * (m : Rat))).toArray⟩, .string ⟨(tD (a * (m : Rat))).toArray⟩], .int .i64 0] ∧ Bs = As := by
  have k := sumF_ok (w0 := w0) (As := As) (v := v) ht (l := List.replicate m (tN a, tD a)) (by rw [List.length_replicate]; omega) (fun p hp => by rw [(List.mem_replicate.1 hp).2]; exact ⟨tN_len ha, tD_len ha⟩)
  have e : sumO (List.replicate m (tN a, tD a)) = (tN (a * (m : Rat)), tD (a * (m : Rat)), 0) := by
    unfold sumO
    rw [if_neg (by rw [List.length_replicate]; omega), readL_rep ha m]
    show outF (sumR (List.replicate m a)) = _
    rw [sumR_rep]; exact h.ot
  rw [e] at k
  exact k
end Go.Proofs.YtldljckhfcoafaaGreatDoor.Q
namespace Go.Proofs.YtldljckhfcoafaaGreatDoor.Q
open Go Go.Sx
theorem fit_int {z : Int} {k : Nat} (hk : 0 < k) (h : Lib.nDigits z.natAbs ≤ k) : Fit k (z : Rat) := ⟨by rw [Rat.num_intCast]; exact h, by rw [Rat.den_intCast, Lib.nDigits_small (by decide)]; omega⟩
theorem fit_intS {z : Int} (h : -9223372036854775808 ≤ z ∧ z ≤ 9223372036854775807) : Fit 19 (z : Rat) := fit_int (by decide) (small_digits h)
theorem fit_mk {z : Int} {d k : Nat} (hk : 0 < k) (h0 : d ≠ 0) (h1 : z.natAbs < 10 ^ k) (h2 : d < 10 ^ k) : Fit k (mkRat z d) := by
  obtain ⟨e1, e2⟩ := rat_norm (n := z) h0
  refine Fit.of hk ?_ ?_
  · rw [e1]; exact Nat.lt_of_le_of_lt (Int.natAbs_ediv_le_natAbs _ _) h1
  · rw [e2]; exact Nat.lt_of_le_of_lt (Nat.div_le_self _ _) h2
theorem ten_lt {p k : Nat} (h : p < k) : 10 ^ p < 10 ^ k := Nat.pow_lt_pow_right (by decide) h
theorem fit_ten {p : Nat} (hp : p ≤ 20) : Fit 21 ((10 : Rat) ^ p) := by
  rw [← ten_pow]
  refine Fit.of (by decide) ?_ ?_
  · rw [Rat.num_natCast, Int.natAbs_natCast]; exact ten_lt (by omega)
  · rw [Rat.den_natCast]; exact Nat.one_lt_pow (by decide) (by decide)
theorem natAbs_ediv_le (x : Int) (y : Int) : (x / y).natAbs ≤ x.natAbs := Int.natAbs_ediv_le_natAbs _ _
theorem near_abs (r : Rat) (k : Nat) : (nearQ r k).natAbs ≤ r.num.natAbs * (k * 2) + r.den := by
  unfold nearQ
  refine Nat.le_trans (natAbs_ediv_le _ _) (Nat.le_trans (Int.natAbs_add_le _ _) ?_)
  rw [Int.natAbs_mul, Int.natAbs_natCast, Int.natAbs_natCast]
  exact Nat.le_refl _
/-- how long a near number is -/
theorem near_digits {r : Rat} {a p : Nat} (hr : Fit a r) : (nearQ r (10 ^ p)).natAbs < 10 ^ (a + p + 1) := by
  refine Nat.lt_of_le_of_lt (near_abs r _) ?_
  have h1 := lt_of_digits hr.1
  have h2 := lt_of_digits hr.2
  have e : 10 ^ (a + p + 1) = 10 ^ a * 10 ^ p * 10 := by rw [Nat.pow_succ, Nat.pow_add]
  have h3 : 1 ≤ 10 ^ p := Nat.pow_pos (by decide)
  have h4 : r.num.natAbs * (10 ^ p * 2) ≤ 10 ^ a * (10 ^ p * 2) := Nat.mul_le_mul_right _ (Nat.le_of_lt h1)
  have h5 : 10 ^ a ≤ 10 ^ a * 10 ^ p := Nat.le_mul_of_pos_right _ h3
  rw [e]
  have h6 : 10 ^ a * (10 ^ p * 2) = 10 ^ a * 10 ^ p * 2 := by rw [Nat.mul_assoc]
  rw [h6] at h4
  generalize 10 ^ a * 10 ^ p = X at *
  omega
variable {w0 : World} {As : List Ent}
theorem floorV_ok (ht : Tab w0) {r : Rat} (hr : Fit 600 r) :
    CallsS Tryz.prog w0 33 [.agg #[.string ⟨(tN r).toArray⟩, .string ⟨(tD r).toArray⟩]] As fun u Bs => u = .tuple #[.string ⟨(textI (r.num / (r.den : Int))).toArray⟩, .int .i64 0] ∧ Bs = As := by
  have k := floorF_ok (w0 := w0) (As := As) ht (tN_len hr) (tD_len hr)
  rw [hr.rd] at k
  exact k
theorem makeV_ok (ht : Tab w0) {z : Int} (hz : Lib.nDigits z.natAbs ≤ 600) :
    CallsS Tryz.prog w0 34 [.string ⟨(textI z).toArray⟩, .string ⟨#[49]⟩] As fun u Bs => u = .tuple #[.agg #[.string ⟨(tN (z : Rat)).toArray⟩, .string ⟨(tD (z : Rat)).toArray⟩], .int .i64 0] ∧ Bs = As := by
  have hl : (textI z).length ≤ 1000000000 := by
    have := textI_len z
    split at this <;> omega
  have k := makeF_ok (w0 := w0) (As := As) ht (a := textI z) (b := [49]) hl (by decide)
  have e : makeO (textI z) [49] = (tN (z : Rat), tD (z : Rat), 0) := by
    unfold makeO
    rw [readW_text hz, show readW [49] = some 1 by decide +kernel]
    simp only []
    rw [if_neg (by decide), if_neg (by decide), show mkRat z (1 : Int).natAbs = (z : Rat) from Rat.mkRat_one z]
    exact (fit_int (by decide) hz).ot
  rw [e] at k
  exact k
theorem nearV_ok (ht : Tab w0) (he : ErrR w0) {r : Rat} {k : Int} (hr : Fit 600 r) :
    CallsS Tryz.prog w0 36 [.agg #[.string ⟨(tN r).toArray⟩, .string ⟨(tD r).toArray⟩], .int .i64 k] As fun u Bs => u = .tuple #[.int .i64 (nearO (some r) k).1, .int .i64 (nearO (some r) k).2] ∧ Bs = As := by
  have h := nearF_ok (w0 := w0) (As := As) ht he (k := k) (tN_len hr) (tD_len hr)
  rw [hr.rd] at h
  exact h
theorem textV_ok (ht : Tab w0) {r : Rat} {p : Nat} (hr : Fit 600 r) (hp : p ≤ 20) :
    CallsS Tryz.prog w0 29 [.agg #[.string ⟨(tN r).toArray⟩, .string ⟨(tD r).toArray⟩], .int .i64 (p : Int)] As fun u Bs => u = .tuple #[.string ⟨(fixT (nearQ r (10 ^ p)) p).toArray⟩, .int .i64 0] ∧ Bs = As := by
  have h := textF_ok (w0 := w0) (As := As) ht (p := (p : Int)) (tN_len hr) (tD_len hr)
  rw [hr.rd, show textO (some r) (p : Int) = (fixT (nearQ r (10 ^ p)) p, 0) from by unfold textO; simp only []; rw [if_pos (by omega), Int.toNat_natCast]] at h
  exact h
theorem fixT_len {z : Int} {p : Nat} (hz : Lib.nDigits z.natAbs ≤ 10000) (hp : p ≤ 20) : (fixT z p).length ≤ 1000000 := by
  have hl : (Lib.decDigits z.natAbs).length ≤ 10000 := by rw [dec_len]; exact hz
  unfold fixT
  generalize Lib.decDigits z.natAbs = d at hl ⊢
  have hq : (padS d p).length ≤ 10100 := by rw [padS, List.length_append, List.length_replicate]; omega
  generalize padS d p = u at hq ⊢
  have h2 : (if 0 < p then dotS u p else d).length ≤ 20300 := by
    split
    · rw [dotS, List.length_append, List.length_append, List.length_take, List.length_drop, List.length_singleton]; omega
    · omega
  rw [List.length_append]
  have h3 : (if z < 0 then [45] else [] : List UInt8).length ≤ 1 := by split <;> decide
  omega
/-- the text of a number is read back -/
theorem parseV_ok (ht : Tab w0) (hm : LenR w0) {z : Int} {p : Nat} (hp : p ≤ 20) (hz : Lib.nDigits z.natAbs ≤ 600) (hf : Fit 600 (mkRat z (10 ^ p))) :
    CallsS Tryz.prog w0 20 [.string ⟨(fixT z p).toArray⟩] As fun u Bs => u = .tuple #[.agg #[.string ⟨(tN (mkRat z (10 ^ p))).toArray⟩, .string ⟨(tD (mkRat z (10 ^ p))).toArray⟩], .int .i64 0] ∧ Bs = As := by
  have h := parseF_ok (w0 := w0) (As := As) ht hm (s := fixT z p) (by have := fixT_len (z := z) (p := p) (by omega) hp; omega)
  rw [parse_fix hp (by omega), show parseO (.inl (mkRat z (10 ^ p))) = outF (mkRat z (10 ^ p)) from rfl, hf.ot] at h
  exact h
theorem tenV_ok (ht : Tab w0) {p : Nat} (hp : p ≤ 20) :
    CallsS Tryz.prog w0 13 [.agg #[.string ⟨(tN 10).toArray⟩, .string ⟨(tD 10).toArray⟩], .int .i64 (p : Int)] As fun u Bs => u = .tuple #[.agg #[.string ⟨(tN ((10 : Rat) ^ p)).toArray⟩, .string ⟨(tD ((10 : Rat) ^ p)).toArray⟩], .int .i64 0] ∧ Bs = As :=
  powT_ok ht (r := 10) (n := p) (Fit.mono (k := 2) (Fit.of (by decide) (by decide) (by decide)) (by decide)) (by omega) ((fit_ten hp).mono (by decide))
end Go.Proofs.YtldljckhfcoafaaGreatDoor.Q
