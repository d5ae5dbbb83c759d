/- Whole numbers, plain: groups of nine digits, decimal digits, texts. -/
import Derived.Test.YtolchkdndnjhbaaDoorSxA
namespace Go.Sx
open Go
def valB : List Nat → Nat
  | [] => 0
  | d :: r => d + 1000000000 * valB r
/-- the groups of nine digits of a number, the lowest first -/
def mag (n : Nat) : List Nat := if h : n = 0 then [] else n % 1000000000 :: mag (n / 1000000000)
termination_by n
decreasing_by omega
theorem mag_zero : mag 0 = [] := by rw [mag, dif_pos rfl]
theorem mag_pos {n : Nat} (h : n ≠ 0) : mag n = n % 1000000000 :: mag (n / 1000000000) := by rw [mag, dif_neg h]
theorem mag_ind {p : Nat → Prop} (h0 : p 0) (h1 : ∀ n, n ≠ 0 → p (n / 1000000000) → p n) (n : Nat) : p n := by
  induction n using Nat.strongRecOn with
  | _ n ih =>
    by_cases h : n = 0
    · subst h; exact h0
    · exact h1 n h (ih _ (by omega))
theorem valB_mag (n : Nat) : valB (mag n) = n := by
  induction n using mag_ind with
  | h0 => rw [mag_zero]; rfl
  | h1 n h ih => rw [mag_pos h, valB, ih]; omega
theorem mag_small (n : Nat) : ∀ d ∈ mag n, d < 1000000000 := by
  induction n using mag_ind with
  | h0 => rw [mag_zero]; intro d hd; cases hd
  | h1 n h ih =>
    rw [mag_pos h]
    intro d hd
    rcases List.mem_cons.1 hd with rfl | hd
    · omega
    · exact ih d hd
theorem mag_nil {n : Nat} : mag n = [] ↔ n = 0 := by
  constructor
  · intro h
    have := valB_mag n
    rw [h] at this
    exact this.symm
  · rintro rfl; exact mag_zero
theorem mag_len0 {n : Nat} : (mag n).length = 0 ↔ n = 0 := by rw [List.length_eq_zero_iff, mag_nil]
def trimL : List Nat → List Nat
  | [] => []
  | d :: r => match trimL r with
    | [] => if d = 0 then [] else [d]
    | x :: s => d :: x :: s
theorem trimL_mag : ∀ {xs : List Nat}, (∀ d ∈ xs, d < 1000000000) → trimL xs = mag (valB xs)
  | [], _ => by rw [valB, mag_zero]; rfl
  | d :: r, h => by
    have ih := trimL_mag (xs := r) fun x hx => h x (List.mem_cons_of_mem _ hx)
    have hd := h d (List.mem_cons_self ..)
    rw [trimL, ih, valB]
    by_cases hv : valB r = 0
    · rw [hv, mag_zero]
      by_cases h0 : d = 0
      · subst h0; rw [mag_zero]; rfl
      · simp only [if_neg h0, Nat.mul_zero, Nat.add_zero]
        rw [mag_pos h0, Nat.mod_eq_of_lt hd, Nat.div_eq_of_lt hd, mag_zero]
    · have h1 : mag (d + 1000000000 * valB r) = d :: mag (valB r) := by
        rw [mag_pos (by omega)]
        rw [show (d + 1000000000 * valB r) % 1000000000 = d by omega, show (d + 1000000000 * valB r) / 1000000000 = valB r by omega]
      rw [h1]
      cases hm : mag (valB r) with
      | nil => exact absurd (mag_nil.1 hm) hv
      | cons x s => rfl
theorem trimL_zero : ∀ {xs : List Nat}, trimL (xs ++ [0]) = trimL xs
  | [] => rfl
  | d :: r => by rw [List.cons_append, trimL, trimL_zero (xs := r), trimL]
theorem trimL_snoc {y : Nat} (hy : y ≠ 0) : ∀ {xs : List Nat}, trimL (xs ++ [y]) = xs ++ [y]
  | [] => by simp [trimL, hy]
  | d :: r => by
    rw [List.cons_append, trimL, trimL_snoc hy (xs := r)]
    cases r <;> rfl
theorem valB_append : ∀ {xs ys : List Nat}, valB (xs ++ ys) = valB xs + 1000000000 ^ xs.length * valB ys
  | [], ys => by simp [valB]
  | d :: r, ys => by
    rw [List.cons_append, valB, valB_append (xs := r), valB, List.length_cons, Nat.pow_succ, Nat.mul_add, Nat.mul_comm (1000000000 ^ r.length) 1000000000, Nat.mul_assoc]
    omega
theorem valB_lt : ∀ {xs : List Nat}, (∀ d ∈ xs, d < 1000000000) → valB xs < 1000000000 ^ xs.length
  | [], _ => by simp [valB]
  | d :: r, h => by
    have ih := valB_lt (xs := r) fun x hx => h x (List.mem_cons_of_mem _ hx)
    have hd := h d (List.mem_cons_self ..)
    rw [valB, List.length_cons, Nat.pow_succ]
    omega
theorem valB_take {xs : List Nat} {i d : Nat} (h : xs[i]? = some d) : valB (xs.take (i + 1)) = valB (xs.take i) + 1000000000 ^ i * d := by
  have hi := (List.getElem?_eq_some_iff.1 h).1
  rw [List.take_succ_eq_append_getElem hi, valB_append, (List.getElem?_eq_some_iff.1 h).2]
  simp only [List.length_take, Nat.min_eq_left (Nat.le_of_lt hi), valB, Nat.mul_zero, Nat.add_zero]
theorem mag_drop (n : Nat) : ∀ i, (mag n).drop i = mag (n / 1000000000 ^ i)
  | 0 => by simp
  | i + 1 => by
    have ih := mag_drop n i
    rw [← List.drop_drop, ih, Nat.pow_succ, ← Nat.div_div_eq_div_mul]
    by_cases h : n / 1000000000 ^ i = 0
    · rw [h, mag_zero]; simp [mag_zero]
    · rw [mag_pos h]; rfl
theorem mag_get {n i d : Nat} (h : (mag n)[i]? = some d) : n / 1000000000 ^ i = d + 1000000000 * (n / 1000000000 ^ (i + 1)) ∧ n / 1000000000 ^ i ≠ 0 ∧ d < 1000000000 := by
  have h1 : (mag (n / 1000000000 ^ i))[0]? = some d := by rw [← mag_drop, List.getElem?_drop, Nat.add_zero, h]
  have h0 : n / 1000000000 ^ i ≠ 0 := fun h0 => by rw [h0, mag_zero] at h1; cases h1
  rw [mag_pos h0] at h1
  simp only [List.getElem?_cons_zero, Option.some.injEq] at h1
  have h2 : n / 1000000000 ^ (i + 1) = n / 1000000000 ^ i / 1000000000 := by rw [Nat.pow_succ, Nat.div_div_eq_div_mul]
  refine ⟨?_, h0, by omega⟩
  rw [h2]; omega
theorem mag_lt_pow (n : Nat) : n < 1000000000 ^ (mag n).length := by
  have := valB_lt (mag_small n)
  rwa [valB_mag] at this
theorem pow_le_mag {n : Nat} (h : n ≠ 0) : 1000000000 ^ ((mag n).length - 1) ≤ n := by
  induction n using mag_ind with
  | h0 => exact absurd rfl h
  | h1 n h ih =>
    rw [mag_pos h, List.length_cons, Nat.add_sub_cancel]
    by_cases h1 : n / 1000000000 = 0
    · rw [h1, mag_zero]; simp; omega
    · have h2 := ih h1
      have h3 : (mag (n / 1000000000)).length ≠ 0 := fun h => h1 (mag_len0.1 h)
      have e : (mag (n / 1000000000)).length = (mag (n / 1000000000)).length - 1 + 1 := by omega
      rw [e, Nat.pow_succ]
      omega
theorem mag_len_le {a b : Nat} (h : a ≤ b) : (mag a).length ≤ (mag b).length := by
  by_cases ha : a = 0
  · subst ha; rw [mag_zero]; exact Nat.zero_le _
  · have h1 := pow_le_mag ha
    have h2 := mag_lt_pow b
    rcases Nat.lt_or_ge (mag b).length (mag a).length with h3 | h3
    · have h4 := Nat.pow_le_pow_right (n := 1000000000) (by omega) (show (mag b).length ≤ (mag a).length - 1 by omega)
      omega
    · exact h3
/-- groups that are small, the last of which is not 0 -/
theorem mag_of {l : List Nat} (h : ∀ d ∈ l, d < 1000000000) (hp : l = [] ∨ 1000000000 ^ (l.length - 1) ≤ valB l) : l = mag (valB l) := by
  rw [← trimL_mag h]
  rcases hp with rfl | hp
  · rfl
  rcases List.eq_nil_or_concat l with rfl | ⟨xs, y, rfl⟩
  · rfl
  · by_cases hy : y = 0
    · subst hy
      rw [List.concat_eq_append] at hp h
      have h1 := valB_lt (xs := xs) fun d hd => h d (List.mem_append_left _ hd)
      rw [valB_append] at hp
      simp only [valB, Nat.mul_zero, Nat.add_zero, List.length_append, List.length_cons, List.length_nil, Nat.add_sub_cancel] at hp
      omega
    · rw [List.concat_eq_append, trimL_snoc hy]

/-! decimal digits -/
def dig (c : UInt8) : Nat := c.toNat - 48
def isDig (c : UInt8) : Bool := decide (48 ≤ c.toNat) && decide (c.toNat ≤ 57)
theorem isDig_iff {c : UInt8} : isDig c = true ↔ 48 ≤ c.toNat ∧ c.toNat ≤ 57 := by simp [isDig]
def numOf (l : List UInt8) : Nat := l.foldl (fun n c => n * 10 + dig c) 0
theorem numOf_nil : numOf [] = 0 := rfl
theorem numOf_snoc {l : List UInt8} {c : UInt8} : numOf (l ++ [c]) = numOf l * 10 + dig c := by simp [numOf]
theorem foldl_num : ∀ (b : List UInt8) (n : Nat), b.foldl (fun n c => n * 10 + dig c) n = n * 10 ^ b.length + numOf b
  | [], n => by simp [numOf]
  | c :: b, n => by
    have h1 := foldl_num b (n * 10 + dig c)
    have h2 := foldl_num b (0 * 10 + dig c)
    have h3 : numOf (c :: b) = b.foldl (fun n c => n * 10 + dig c) (0 * 10 + dig c) := rfl
    rw [List.foldl_cons, h1, h3, h2, List.length_cons, Nat.pow_succ, Nat.add_mul, Nat.mul_assoc, Nat.mul_comm 10 (10 ^ b.length)]
    simp only [Nat.zero_mul, Nat.zero_add]
    omega
theorem numOf_append {a b : List UInt8} : numOf (a ++ b) = numOf a * 10 ^ b.length + numOf b := by
  rw [numOf, List.foldl_append, foldl_num]; rfl
theorem dig_lt {c : UInt8} (h : isDig c = true) : dig c < 10 := by
  rw [isDig_iff] at h; unfold dig; omega
theorem numOf_lt : ∀ {l : List UInt8}, (∀ c ∈ l, isDig c = true) → numOf l < 10 ^ l.length := by
  intro l
  induction l with
  | nil => intro _; simp [numOf]
  | cons c l ih =>
    intro h
    have h1 := ih fun x hx => h x (List.mem_cons_of_mem _ hx)
    have h2 := dig_lt (h c (List.mem_cons_self ..))
    have h3 := numOf_append (a := [c]) (b := l)
    have h4 : numOf [c] = dig c := by simp [numOf]
    rw [List.singleton_append, h4] at h3
    rw [h3, List.length_cons, Nat.pow_succ]
    have h5 := Nat.mul_le_mul_right (10 ^ l.length) (show dig c ≤ 9 by omega)
    omega
/-- groups of nine digits, from the right -/
def grp (l : List UInt8) : List Nat := if h : l.length ≤ 9 then [numOf l] else numOf (l.drop (l.length - 9)) :: grp (l.take (l.length - 9))
termination_by l.length
decreasing_by simp; omega
theorem grp_le {l : List UInt8} (h : l.length ≤ 9) : grp l = [numOf l] := by rw [grp, dif_pos h]
theorem grp_gt {l : List UInt8} (h : ¬ l.length ≤ 9) : grp l = numOf (l.drop (l.length - 9)) :: grp (l.take (l.length - 9)) := by rw [grp, dif_neg h]
theorem grp_spec (k : Nat) : ∀ {l : List UInt8}, l.length ≤ k → (∀ c ∈ l, isDig c = true) → valB (grp l) = numOf l ∧ ∀ d ∈ grp l, d < 1000000000 := by
  induction k with
  | zero =>
    intro l hl _
    have : l = [] := List.length_eq_zero_iff.1 (by omega)
    subst this
    rw [grp_le (by simp)]
    simp [valB, numOf]
  | succ k ih =>
    intro l hl hd
    by_cases h : l.length ≤ 9
    · rw [grp_le h]
      have h1 := numOf_lt hd
      have h2 := Nat.pow_le_pow_right (n := 10) (by omega) h
      refine ⟨by simp [valB], fun d hm => ?_⟩
      rw [List.mem_singleton.1 hm]
      omega
    · rw [grp_gt h]
      obtain ⟨h1, h2⟩ := ih (l := l.take (l.length - 9)) (by simp; omega) fun c hc => hd c (List.mem_of_mem_take hc)
      have hld : (l.drop (l.length - 9)).length = 9 := by simp; omega
      have h3 := numOf_lt (l := l.drop (l.length - 9)) fun c hc => hd c (List.mem_of_mem_drop hc)
      rw [hld] at h3
      refine ⟨?_, fun d hm => ?_⟩
      · have h4 := numOf_append (a := l.take (l.length - 9)) (b := l.drop (l.length - 9))
        rw [List.take_append_drop, hld] at h4
        rw [valB, h1, h4]
        omega
      · rcases List.mem_cons.1 hm with rfl | hm
        · omega
        · exact h2 d hm
theorem dig_of {k : Nat} (h : k < 10) : dig (UInt8.ofNat (48 + k)) = k ∧ isDig (UInt8.ofNat (48 + k)) = true ∧ (UInt8.ofNat (48 + k)).toNat = 48 + k := by
  have : (UInt8.ofNat (48 + k)).toNat = 48 + k := by simp; omega
  refine ⟨by rw [dig, this]; omega, by rw [isDig_iff, this]; omega, this⟩
theorem dec_small {n : Nat} (h : n < 10) : Lib.decDigits n = [UInt8.ofNat (48 + n)] := Lib.decDigits_one h
theorem dec_big {n : Nat} (h : ¬ n < 10) : Lib.decDigits n = Lib.decDigits (n / 10) ++ [UInt8.ofNat (48 + n % 10)] := by rw [Lib.decDigits, dif_neg h]
theorem dec_ind {p : Nat → Prop} (h0 : ∀ n, n < 10 → p n) (h1 : ∀ n, ¬ n < 10 → p (n / 10) → p n) (n : Nat) : p n := by
  induction n using Nat.strongRecOn with
  | _ n ih =>
    by_cases h : n < 10
    · exact h0 n h
    · exact h1 n h (ih _ (by omega))
theorem numOf_dec (n : Nat) : numOf (Lib.decDigits n) = n := by
  induction n using dec_ind with
  | h0 n h => rw [dec_small h]; show 0 * 10 + dig _ = n; rw [(dig_of h).1]; omega
  | h1 n h ih => rw [dec_big h, numOf_snoc, ih, (dig_of (show n % 10 < 10 by omega)).1]; omega
theorem dec_dig (n : Nat) : ∀ c ∈ Lib.decDigits n, isDig c = true := by
  induction n using dec_ind with
  | h0 n h =>
    rw [dec_small h]
    intro c hc
    rw [List.mem_singleton.1 hc]; exact (dig_of h).2.1
  | h1 n h ih =>
    rw [dec_big h]
    intro c hc
    rcases List.mem_append.1 hc with hc | hc
    · exact ih c hc
    · rw [List.mem_singleton.1 hc]; exact (dig_of (show n % 10 < 10 by omega)).2.1
theorem dec_len (n : Nat) : (Lib.decDigits n).length = Lib.nDigits n := Lib.decDigits_length n
theorem nDigits_pos (n : Nat) : 0 < Lib.nDigits n := by
  by_cases h : n < 10
  · rw [Lib.nDigits_small h]; decide
  · rw [Lib.nDigits_big h]; omega
theorem dec_head {n : Nat} (h0 : n ≠ 0) : ∃ c r, Lib.decDigits n = c :: r ∧ c.toNat ≠ 48 := by
  induction n using dec_ind with
  | h0 n h => exact ⟨_, [], dec_small h, by rw [(dig_of h).2.2]; omega⟩
  | h1 n h ih =>
    obtain ⟨c, r, h1, h2⟩ := ih (by omega)
    exact ⟨c, r ++ [_], by rw [dec_big h, h1]; rfl, h2⟩
/-- k digits, with zeros in front -/
def pad : Nat → Nat → List UInt8
  | 0, _ => []
  | k + 1, r => pad k (r / 10) ++ [UInt8.ofNat (48 + r % 10)]
theorem pad_zero : ∀ k, pad k 0 = List.replicate k 48
  | 0 => rfl
  | k + 1 => by rw [pad, pad_zero k, List.replicate_succ']; rfl
theorem pad_dec : ∀ {k r : Nat}, Lib.nDigits r ≤ k → pad k r = List.replicate (k - Lib.nDigits r) 48 ++ Lib.decDigits r
  | 0, r, h => by have := nDigits_pos r; omega
  | k + 1, r, h => by
    rw [pad]
    by_cases h1 : r < 10
    · rw [Lib.nDigits_small h1, dec_small h1, show r / 10 = 0 by omega, pad_zero, show r % 10 = r by omega]; rfl
    · rw [Lib.nDigits_big h1] at h ⊢
      rw [pad_dec (by omega), dec_big h1, List.append_assoc, show k + 1 - (Lib.nDigits (r / 10) + 1) = k - Lib.nDigits (r / 10) by omega]
theorem dec_split {q : Nat} (hq : 0 < q) : ∀ {k r : Nat}, r < 10 ^ k → Lib.decDigits (q * 10 ^ k + r) = Lib.decDigits q ++ pad k r
  | 0, r, h => by
    have : r = 0 := by simpa using h
    subst this; simp [pad]
  | k + 1, r, h => by
    have hp : 0 < 10 ^ k := Nat.pow_pos (by omega)
    have hqk := Nat.mul_pos hq hp
    rw [Nat.pow_succ] at h
    have e1 : q * 10 ^ (k + 1) = q * 10 ^ k * 10 := by rw [Nat.pow_succ, Nat.mul_assoc]
    have e2 : (q * 10 ^ (k + 1) + r) / 10 = q * 10 ^ k + r / 10 := by rw [e1]; omega
    have e3 : (q * 10 ^ (k + 1) + r) % 10 = r % 10 := by rw [e1]; omega
    have h2 : ¬ q * 10 ^ (k + 1) + r < 10 := by
      rw [e1]
      omega
    rw [dec_big h2, e2, e3, dec_split hq (by omega), pad, List.append_assoc]
theorem nDigits_le {k : Nat} : ∀ {r : Nat}, r < 10 ^ (k + 1) → Lib.nDigits r ≤ k + 1 := by
  induction k with
  | zero => intro r h; rw [Lib.nDigits_small (by simpa using h)]; exact Nat.le_refl _
  | succ k ih =>
    intro r h
    by_cases h1 : r < 10
    · rw [Lib.nDigits_small h1]; omega
    · rw [Lib.nDigits_big h1]
      rw [Nat.pow_succ] at h
      have := ih (r := r / 10) (by omega)
      omega
theorem dec_group {q d : Nat} (hq : q ≠ 0) (hd : d < 1000000000) : Lib.decDigits (d + 1000000000 * q) = Lib.decDigits q ++ (List.replicate (9 - Lib.nDigits d) 48 ++ Lib.decDigits d) := by
  have h := dec_split (q := q) (by omega) (k := 9) (r := d) (by simpa using hd)
  rw [show q * 10 ^ 9 + d = d + 1000000000 * q by omega] at h
  rw [h, pad_dec (nDigits_le (k := 8) (by simpa using hd))]
theorem nDigits_group {q d : Nat} (hq : q ≠ 0) (hd : d < 1000000000) : Lib.nDigits (d + 1000000000 * q) = Lib.nDigits q + 9 := by
  have h := congrArg List.length (dec_group hq hd)
  have h1 := nDigits_le (k := 8) (r := d) (by simpa using hd)
  simp only [List.length_append, List.length_replicate, dec_len] at h
  omega
theorem nDigits_mag {n : Nat} : ∀ i, n / 1000000000 ^ i ≠ 0 → Lib.nDigits n = 9 * i + Lib.nDigits (n / 1000000000 ^ i)
  | 0, _ => by simp
  | i + 1, h => by
    have e : n / 1000000000 ^ (i + 1) = n / 1000000000 ^ i / 1000000000 := by rw [Nat.pow_succ, Nat.div_div_eq_div_mul]
    rw [e] at h ⊢
    rw [nDigits_mag i (by omega)]
    have := nDigits_group (q := n / 1000000000 ^ i / 1000000000) (d := n / 1000000000 ^ i % 1000000000) h (by omega)
    rw [show n / 1000000000 ^ i % 1000000000 + 1000000000 * (n / 1000000000 ^ i / 1000000000) = n / 1000000000 ^ i by omega] at this
    omega

/-! texts of whole numbers -/
def textI (z : Int) : List UInt8 := Lib.itoa z
/-- the number that a text stands for, if it is one of 1 to 600 digits -/
def readW (s : List UInt8) : Option Int :=
  if Lib.hasPrefix s [45] then
    if 0 < (s.drop 1).length ∧ (s.drop 1).length ≤ 600 ∧ (∀ c ∈ s.drop 1, isDig c = true) ∧ (s.drop 1)[0]? ≠ some 48 then some (-(numOf (s.drop 1) : Int)) else none
  else if 0 < s.length ∧ s.length ≤ 600 ∧ (∀ c ∈ s, isDig c = true) ∧ (s[0]? = some 48 → s.length = 1) then some (numOf s : Int) else none
theorem readW_eq {s l : List UInt8} {neg : Bool} (hn : Lib.hasPrefix s [45] = neg) (hl : Lib.trimPrefix s [45] = l) :
    readW s = if 0 < l.length ∧ l.length ≤ 600 ∧ (∀ c ∈ l, isDig c = true) ∧ (l[0]? = some 48 → neg = false ∧ l.length = 1) then some (if neg then -(numOf l : Int) else (numOf l : Int)) else none := by
  subst hn hl
  unfold readW Lib.trimPrefix
  cases Lib.hasPrefix s [45] <;> simp
theorem numOf_pos {l : List UInt8} (hd : ∀ c ∈ l, isDig c = true) (h0 : 0 < l.length) (h : l[0]? ≠ some 48) : 0 < numOf l := by
  cases l with
  | nil => simp at h0
  | cons c l =>
    have h1 := numOf_append (a := [c]) (b := l)
    rw [List.singleton_append] at h1
    have h2 := isDig_iff.1 (hd c (List.mem_cons_self ..))
    have h3 : c.toNat ≠ 48 := fun h3 => h (by
      have : c = 48 := by apply UInt8.toNat_inj.1; rw [h3]; rfl
      simp [this])
    have h4 : numOf [c] = dig c := by simp [numOf]
    have h5 : 1 ≤ dig c := by unfold dig; omega
    have h6 : 0 < 10 ^ l.length := Nat.pow_pos (by omega)
    have h7 := Nat.mul_le_mul_right (10 ^ l.length) h5
    rw [h1, h4]; omega
/-- the text and the error of a result -/
def outW (z : Int) : List UInt8 × Int := if 600 < Lib.nDigits z.natAbs then ([], 6) else (textI z, 0)
end Go.Sx
