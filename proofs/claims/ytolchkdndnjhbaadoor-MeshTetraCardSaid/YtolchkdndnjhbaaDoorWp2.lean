/- Whole numbers, plain: sums, differences, comparisons of magnitudes. -/
import Derived.Test.YtolchkdndnjhbaaDoorWp1
namespace Go.Sx
open Go
theorem plus_step {X P c A B g c' d e : Nat} (h : X + P * c = A + B) (hd : g + 1000000000 * c' = d + c + e) : X + P * g + P * 1000000000 * c' = A + P * d + (B + P * e) := by
  have h1 : P * (g + 1000000000 * c') = P * (d + c + e) := by rw [hd]
  rw [Nat.mul_add, Nat.mul_add, Nat.mul_add, ← Nat.mul_assoc] at h1
  omega
theorem minus_step {X P c A B g c' d e : Nat} (h : X + B = A + P * c) (hd : g + c + e = d + 1000000000 * c') : X + P * g + (B + P * e) = A + P * d + P * 1000000000 * c' := by
  have h1 : P * (g + c + e) = P * (d + 1000000000 * c') := by rw [hd]
  rw [Nat.mul_add, Nat.mul_add, Nat.mul_add, ← Nat.mul_assoc] at h1
  omega
theorem valB_snoc {xs : List Nat} {d : Nat} : valB (xs ++ [d]) = valB xs + 1000000000 ^ xs.length * d := by
  rw [valB_append]; simp [valB]
theorem valB_take_ge {xs : List Nat} {i : Nat} (h : xs.length ≤ i) : valB (xs.take i) = valB xs := by rw [List.take_of_length_le h]
theorem small_snoc {xs : List Nat} {d : Nat} (h : ∀ x ∈ xs, x < 1000000000) (hd : d < 1000000000) : ∀ x ∈ xs ++ [d], x < 1000000000 := fun x hx => by
  rcases List.mem_append.1 hx with hx | hx
  · exact h x hx
  · rw [List.mem_singleton.1 hx]; exact hd
theorem small_set {xs : List Nat} {i d : Nat} (h : ∀ x ∈ xs, x < 1000000000) (hd : d < 1000000000) : ∀ x ∈ xs.set i d, x < 1000000000 := fun x hx => by
  rcases List.mem_or_eq_of_mem_set hx with hx | rfl
  · exact h x hx
  · exact hd
/-- the sum's groups, without a carry -/
theorem sum_end0 {a b : Nat} {xs : List Nat} (hs : ∀ x ∈ xs, x < 1000000000) (hl : xs.length = (mag a).length) (hv : valB xs = a + b) (hb : (mag b).length ≤ (mag a).length) : xs = mag (a + b) := by
  rw [← hv]
  refine mag_of hs ?_
  by_cases h0 : a = 0
  · subst h0
    rw [mag_zero] at hl
    exact .inl (List.length_eq_zero_iff.1 hl)
  · have := pow_le_mag h0
    right
    rw [hl, hv]; omega
theorem sum_end1 {a b : Nat} {xs : List Nat} (hs : ∀ x ∈ xs, x < 1000000000) (hl : xs.length = (mag a).length) (hv : valB xs + 1000000000 ^ xs.length = a + b) : xs ++ [1] = mag (a + b) := by
  have h1 : valB (xs ++ [1]) = a + b := by rw [valB_snoc, Nat.mul_one]; exact hv
  rw [← h1]
  refine mag_of (small_snoc hs (by decide)) (.inr ?_)
  rw [h1, List.length_append, List.length_singleton, Nat.add_sub_cancel, ← hv]
  omega
theorem cmp_len {a b : Nat} (h : (mag a).length < (mag b).length) : a < b := by
  have h1 := mag_lt_pow a
  have hb : b ≠ 0 := fun h0 => by subst h0; rw [mag_zero] at h; simp at h
  have h2 := pow_le_mag hb
  have h3 := Nat.pow_le_pow_right (n := 1000000000) (by omega) (show (mag a).length ≤ (mag b).length - 1 by omega)
  omega
/-- the highest groups that differ decide -/
theorem cmp_group {a b i d e : Nat} (h : a / 1000000000 ^ (i + 1) = b / 1000000000 ^ (i + 1)) (ha : a / 1000000000 ^ i = d + 1000000000 * (a / 1000000000 ^ (i + 1))) (hb : b / 1000000000 ^ i = e + 1000000000 * (b / 1000000000 ^ (i + 1))) (hde : d < e) : a < b := by
  rcases Nat.lt_or_ge a b with h1 | h1
  · exact h1
  · have := Nat.div_le_div_right (c := 1000000000 ^ i) h1
    omega
theorem mag_len_pow {n k : Nat} (h : n < 10 ^ k) : (mag n).length ≤ k := by
  by_cases h0 : n = 0
  · subst h0; rw [mag_zero]; exact Nat.zero_le _
  · have h1 := pow_le_mag h0
    have h2 : 10 ^ ((mag n).length - 1) ≤ 1000000000 ^ ((mag n).length - 1) := Nat.pow_le_pow_left (by omega) _
    rcases Nat.lt_or_ge k (mag n).length with h3 | h3
    · have h4 := Nat.pow_le_pow_right (n := 10) (by omega) (show k ≤ (mag n).length - 1 by omega)
      omega
    · exact h3
theorem readW_lt {s : List UInt8} {z : Int} (h : readW s = some z) : z.natAbs < 10 ^ 600 := by
  rw [readW_eq rfl rfl] at h
  split at h
  · rename_i hc
    have h1 := numOf_lt hc.2.2.1
    have h2 := Nat.pow_le_pow_right (n := 10) (by omega) hc.2.1
    have h3 := Option.some.inj h
    have h4 : z.natAbs = numOf (Lib.trimPrefix s [45]) := by rw [← h3]; split <;> omega
    rw [h4]
    exact Nat.lt_of_lt_of_le h1 h2
  · cases h
theorem readW_len {s : List UInt8} {z : Int} (h : readW s = some z) : (mag z.natAbs).length ≤ 600 := mag_len_pow (readW_lt h)
theorem add_len' {k : Nat} {x y : Int} (h1 : x.natAbs < 10 ^ k) (h2 : y.natAbs < 10 ^ k) : (mag (x + y).natAbs).length ≤ k + 1 := by
  refine mag_len_pow ?_
  have h3 : (x + y).natAbs ≤ x.natAbs + y.natAbs := by omega
  have h4 : (10 : Nat) ^ (k + 1) = 10 ^ k * 10 := Nat.pow_succ ..
  omega
theorem add_len {x y : Int} (h1 : x.natAbs < 10 ^ 600) (h2 : y.natAbs < 10 ^ 600) : (mag (x + y).natAbs).length ≤ 601 := add_len' h1 h2
/-! texts of numbers are read back -/
theorem hasPrefix_minus {c : UInt8} {l : List UInt8} : Lib.hasPrefix (c :: l) [45] = decide (c = 45) := by
  unfold Lib.hasPrefix
  by_cases h : c = 45
  · subst h; rfl
  · simp [List.isPrefixOf, h]; exact fun h1 => h h1.symm
theorem readW_text {z : Int} (h : Lib.nDigits z.natAbs ≤ 600) : readW (textI z) = some z := by
  have hd := dec_dig z.natAbs
  have hn := numOf_dec z.natAbs
  have hlen := dec_len z.natAbs
  have hp := nDigits_pos z.natAbs
  have hh : ∀ (P : Prop), ((Lib.decDigits z.natAbs)[0]? = some 48 → z.natAbs ≠ 0 → P) := fun P h0 hz => by
    obtain ⟨c, r, h1, h2⟩ := dec_head (n := z.natAbs) hz
    rw [h1] at h0
    simp at h0
    subst h0
    exact absurd rfl h2
  by_cases hz : z < 0
  · have ht : textI z = 45 :: Lib.decDigits z.natAbs := by simp [textI, Lib.itoa, hz]
    have hc : 0 < (Lib.decDigits z.natAbs).length ∧ (Lib.decDigits z.natAbs).length ≤ 600 ∧ (∀ c ∈ Lib.decDigits z.natAbs, isDig c = true) ∧ ((Lib.decDigits z.natAbs)[0]? = some 48 → true = false ∧ (Lib.decDigits z.natAbs).length = 1) := ⟨by omega, by omega, hd, fun h0 => hh _ h0 (by omega)⟩
    rw [ht, readW_eq (l := Lib.decDigits z.natAbs) (neg := true) (by rw [hasPrefix_minus]; rfl) (by rw [Lib.trimPrefix, hasPrefix_minus]; rfl), if_pos hc, hn]
    simp; omega
  · have ht : textI z = Lib.decDigits z.natAbs := by simp only [textI, Lib.itoa, if_neg hz]; rw [show z.toNat = z.natAbs by omega]
    have hne : Lib.hasPrefix (Lib.decDigits z.natAbs) [45] = false := by
      cases hl : Lib.decDigits z.natAbs with
      | nil => rw [hl] at hlen; simp at hlen; omega
      | cons c r =>
        rw [hasPrefix_minus, decide_eq_false]
        rintro rfl
        have := isDig_iff.1 (hd 45 (by rw [hl]; exact List.mem_cons_self ..))
        have h45 : (45 : UInt8).toNat = 45 := rfl
        omega
    have hc : 0 < (Lib.decDigits z.natAbs).length ∧ (Lib.decDigits z.natAbs).length ≤ 600 ∧ (∀ c ∈ Lib.decDigits z.natAbs, isDig c = true) ∧ ((Lib.decDigits z.natAbs)[0]? = some 48 → false = false ∧ (Lib.decDigits z.natAbs).length = 1) := ⟨by omega, by omega, hd, fun h0 => ⟨rfl, by
      by_cases h1 : z.natAbs = 0
      · rw [h1, dec_small (by decide)]; rfl
      · exact hh _ h0 h1⟩⟩
    rw [ht, readW_eq (l := Lib.decDigits z.natAbs) (neg := false) hne (by rw [Lib.trimPrefix, hne]; rfl), if_pos hc, hn]
    simp; omega
end Go.Sx
