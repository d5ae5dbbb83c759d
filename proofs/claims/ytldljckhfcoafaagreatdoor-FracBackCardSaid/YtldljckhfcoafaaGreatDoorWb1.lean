/- Walks: magnitudes of small numbers, products, a number by one group. Walks: one group of a quotient. Walks: quotients and remainders of magnitudes. Walks: divisors, powers, roots of magnitudes. -/
import Derived.Test.YtldljckhfcoafaaGreatDoorWa5
import Derived.Test.YtldljckhfcoafaaGreatDoorPl
import Derived.Test.YtldljckhfcoafaaGreatDoorSxB
namespace Go.Proofs.YtldljckhfcoafaaGreatDoor
open Go Go.Sx
variable {w0 : World} {As : List Ent}
theorem times_ok {v o : Value} {a b : Nat} [hf : RdIn As v Nat (cN .u32) (mag a)] [hg : RdIn As o Nat (cN .u32) (mag b)] (ha : (mag a).length ≤ 100000000) (hb : (mag b).length ≤ 100000000) : CallsS Tryz.prog w0 153 [v, o] As (MagR As (a * b)) := by
  have hsa := mag_small a
  have hsb := mag_small b
  have hrl : (List.replicate ((mag a).length + (mag b).length) 0).length = (mag a).length + (mag b).length := List.length_replicate
  refine CallsS.of_tri Tryz.func153 rfl Tryz.ntmps153 rfl ?_
  (repeat' (first | (show TL _ _ _ _ (_ :: _) _ _ _; first | refine TL.sa ?_ | (refine TL.na ?_; intro _)) | (first | refine Stp.h ?_ | refine Post.then_normal ?_ | refine Post.next ?_ | refine Post.block_other rfl ?_) | refine Tri.ca ?_))
  rename_i sv
  refine Tri.loop (ι := Nat × List Nat) (fun s => s.1 ≤ (mag a).length ∧ s.2.length = (mag a).length + (mag b).length ∧ (∀ x ∈ s.2, x < 1000000000) ∧ valB s.2 = valB ((mag a).take s.1) * b) (fun s => (mag a).length - s.1)
    (fun s => [(1, o), (5, sv), (17, v), (18, .int .i64 (mag a).length), (19, .int .i64 (s.1 : Int))]) (fun s => .ow (cN .u32) 66 sv s.2 :: As)
    (0, List.replicate ((mag a).length + (mag b).length) 0) ⟨by omega, hrl, small_rep _, by simp [valB_replicate, valB]⟩ (by (exact Sub.au)) (by (exact Ents.au)) ?_
  rintro ⟨i, xs⟩ ⟨hi, hxl, hxs, hval⟩
  simp only at hi hxl hxs hval
  show Tri _ _ _ _ [(1, o), (5, sv), (17, v), (18, _), (19, .int .i64 (i : Int))] (.ow (cN .u32) 66 sv xs :: As) _
  (repeat' (first | (show TL _ _ _ _ (_ :: _) _ _ _; first | refine TL.sa ?_ | (refine TL.na ?_; intro _)) | (first | refine Stp.h ?_ | refine Post.then_normal ?_ | refine Post.next ?_ | refine Post.block_other rfl ?_) | refine Tri.ca ?_))
  ((show Tri _ _ _ (.cond _ _ _) _ _ _; first | refine Tri.condP rfl (fun hc => ?_) (fun hc => ?_) | refine Tri.condN rfl (fun hc => ?_) (fun hc => ?_)))
  · obtain ⟨d, hd⟩ : ∃ d, (mag a)[i]? = some d := ⟨_, List.getElem?_eq_getElem (by omega)⟩
    have hd9 := hsa d (List.mem_of_getElem? hd)
    have hta := valB_take hd
    have hbp := mag_lt_pow b
    have hap : valB ((mag a).take i) < 1000000000 ^ i := by
      have := valB_lt (xs := (mag a).take i) fun x hx => hsa x (List.mem_of_mem_take hx)
      rwa [List.length_take, Nat.min_eq_left (by omega)] at this
    have hxz : xs[i + (mag b).length]? = some 0 := by
      obtain ⟨z, hz⟩ : ∃ z, xs[i + (mag b).length]? = some z := ⟨_, List.getElem?_eq_getElem (by omega)⟩
      rw [valB_get_zero (n := i + (mag b).length) (by
        rw [hval, Nat.pow_add]
        rcases Nat.eq_zero_or_pos b with h0 | h0
        · rw [h0, Nat.mul_zero]; exact Nat.mul_pos (Nat.pow_pos (by omega)) (Nat.pow_pos (by omega))
        · exact Nat.lt_of_lt_of_le (Nat.mul_lt_mul_of_pos_right hap h0) (Nat.mul_le_mul_left _ (Nat.le_of_lt hbp))) (Nat.le_refl _) hz] at hz
      exact hz
    (repeat' (first | (show TL _ _ _ _ (_ :: _) _ _ _; first | refine TL.sa ?_ | (refine TL.na ?_; intro _)) | (first | refine Stp.h ?_ | refine Post.then_normal ?_ | refine Post.next ?_ | refine Post.block_other rfl ?_) | refine Tri.ca ?_))
    refine Tri.loop (ι := Nat × List Nat × Nat) (fun s => s.1 ≤ (mag b).length ∧ s.2.1.length = (mag a).length + (mag b).length ∧ (∀ x ∈ s.2.1, x < 1000000000) ∧ s.2.2 < 1000000000 ∧ s.2.1[i + (mag b).length]? = some 0 ∧ valB s.2.1 + 1000000000 ^ (i + s.1) * s.2.2 = valB ((mag a).take i) * b + 1000000000 ^ i * d * valB ((mag b).take s.1)) (fun s => (mag b).length - s.1)
      (fun s => [(1, o), (5, sv), (6, .int .i64 (i : Int)), (7, .int .u32 (d : Int)), (8, .int .u64 (s.2.2 : Int)), (17, v), (18, .int .i64 (mag a).length), (19, .int .i64 (i : Int)), (24, o), (25, .int .i64 (mag b).length), (26, .int .i64 (s.1 : Int))]) (fun s => .ow (cN .u32) 66 sv s.2.1 :: As)
      (0, xs, 0) ⟨by omega, hxl, hxs, by simp only; omega, hxz, by simp [valB, hval]⟩ (by (exact Sub.au)) (by (exact Ents.au)) ?_
    rintro ⟨j, ys, c⟩ ⟨hj, hyl, hys, hc9, hyz, hyv⟩
    simp only at hj hyl hys hc9 hyz hyv
    show Tri _ _ _ _ [(1, o), (5, sv), (6, .int .i64 (i : Int)), (7, .int .u32 (d : Int)), (8, .int .u64 (c : Int)), (17, v), (18, _), (19, .int .i64 (i : Int)), (24, o), (25, _), (26, .int .i64 (j : Int))] (.ow (cN .u32) 66 sv ys :: As) _
    (repeat' (first | (show TL _ _ _ _ (_ :: _) _ _ _; first | refine TL.sa ?_ | (refine TL.na ?_; intro _)) | (first | refine Stp.h ?_ | refine Post.then_normal ?_ | refine Post.next ?_ | refine Post.block_other rfl ?_) | refine Tri.ca ?_))
    ((show Tri _ _ _ (.cond _ _ _) _ _ _; first | refine Tri.condP rfl (fun hc => ?_) (fun hc => ?_) | refine Tri.condN rfl (fun hc => ?_) (fun hc => ?_)))
    · obtain ⟨ee, he⟩ : ∃ ee, (mag b)[j]? = some ee := ⟨_, List.getElem?_eq_getElem (by omega)⟩
      have he9 := hsb ee (List.mem_of_getElem? he)
      have htb := valB_take he
      obtain ⟨p, hp⟩ : ∃ p, ys[i + j]? = some p := ⟨_, List.getElem?_eq_getElem (by omega)⟩
      have hp9 := hys p (List.mem_of_getElem? hp)
      have hlim := mul_lt_mulB hd9 he9 hc9 hp9
      have hij : ((i : Int) + (j : Int)) = ((i + j : Nat) : Int) := by omega
      have hde : (d : Int) * (ee : Int) = ((d * ee : Nat) : Int) := (Int.natCast_mul d ee).symm
      (repeat' (first | (show TL _ _ _ _ (_ :: _) _ _ _; first | refine TL.sa ?_ | (refine TL.na ?_; intro _)) | (first | refine Stp.h ?_ | refine Post.then_normal ?_ | refine Post.next ?_ | refine Post.block_other rfl ?_) | refine Tri.ca ?_))
      refine Post.round (j + 1, ys.set (i + j) ((c + (p + d * ee)) % 1000000000), (c + (p + d * ee)) / 1000000000) ⟨by simp only; omega, by simpa using hyl, small_set hys (by omega), by simp only; omega, ?_, ?_⟩ (by simp only; omega) (by (exact Sub.au)) (Ents.refl _)
      · simp only
        rw [List.getElem?_set_ne (by omega)]
        exact hyz
      · simp only
        have h1 := times_step (valB_set (g := (c + (p + d * ee)) % 1000000000) hp) (show c + (p + d * ee) = c + p + d * ee by omega) hyv
        rw [show i + (j + 1) = (i + j) + 1 by omega, Nat.pow_succ, h1, htb, Nat.mul_add, Nat.pow_add, Nat.add_assoc]
        congr 2
        simp only [Nat.mul_assoc, Nat.mul_left_comm]
    · have hje : j = (mag b).length := by omega
      subst hje
      rw [valB_take_ge (Nat.le_refl _), valB_mag] at hyv
      (repeat' (first | (show TL _ _ _ _ (_ :: _) _ _ _; first | refine TL.sa ?_ | (refine TL.na ?_; intro _)) | (first | refine Stp.h ?_ | refine Post.then_normal ?_ | refine Post.next ?_ | refine Post.block_other rfl ?_) | refine Tri.ca ?_))
      refine Post.round (i + 1, ys.set (i + (mag b).length) c) ⟨by simp only; omega, by simpa using hyl, small_set hys hc9, ?_⟩ (by simp only; omega) (by (exact Sub.au)) (by (exact Ents.au))
      simp only
      have h1 := valB_set (g := c) hyz
      rw [hta, Nat.add_mul]
      omega
  · have hie : i = (mag a).length := by omega
    rw [valB_take_ge (by omega), valB_mag] at hval
    (repeat' (first | (show TL _ _ _ _ (_ :: _) _ _ _; first | refine TL.sa ?_ | (refine TL.na ?_; intro _)) | (first | refine Stp.h ?_ | refine Post.then_normal ?_ | refine Post.next ?_ | refine Post.block_other rfl ?_) | refine Tri.ca ?_))
    refine TL.ents Ents.freeze ?_
    refine TL.call rfl rfl rfl (trim_ok hxs (by omega)) ?_
    rintro _ _ ⟨p, cap, rfl, rfl⟩
    rw [hval]
    (repeat' (first | (show TL _ _ _ _ (_ :: _) _ _ _; first | refine TL.sa ?_ | (refine TL.na ?_; intro _)) | (first | refine Stp.h ?_ | refine Post.then_normal ?_ | refine Post.next ?_ | refine Post.block_other rfl ?_) | refine Tri.ca ?_))
    (refine Post.ra ?_)
    exact ⟨_, ⟨p, cap, rfl, rfl⟩, by (exact Ents.au)⟩
/-- quotient and remainder by a small number -/
def ShortR (As : List Ent) (q r : Nat) (u : Value) (Bs : List Ent) : Prop := ∃ p cap, u = .tuple #[.slice p (mag q).length cap, .int .u32 (r : Int)] ∧ Bs = .ft (rd (cN .u32) (.slice p (mag q).length cap) (mag q)) :: As
end Go.Proofs.YtldljckhfcoafaaGreatDoor
namespace Go.Proofs.YtldljckhfcoafaaGreatDoor
open Go Go.Sx
variable {w0 : World} {As : List Ent}
/-- the greatest multiple is taken away -/
def RedR (As : List Ent) (vu : Value) (us : List Nat) (lo b : Nat) (r : Value) (Bs : List Ent) : Prop := ∃ us' : List Nat, r = .int .u32 ((valB (us.drop lo) / b : Nat) : Int) ∧ us'.length = us.length ∧ (∀ x ∈ us', x < 1000000000) ∧ valB (us'.drop lo) = valB (us.drop lo) % b ∧ us'.take lo = us.take lo ∧ Bs = .ow (cN .u32) 66 vu us' :: As
end Go.Proofs.YtldljckhfcoafaaGreatDoor
namespace Go.Proofs.YtldljckhfcoafaaGreatDoor
open Go Go.Sx
variable {w0 : World} {As : List Ent}
/-- quotient and remainder -/
def DivR (As : List Ent) (q r : Nat) (u : Value) (Bs : List Ent) : Prop := ∃ p cap p' cap', u = .tuple #[.slice p (mag q).length cap, .slice p' (mag r).length cap'] ∧ Bs = .ft (rd (cN .u32) (.slice p (mag q).length cap) (mag q)) :: .ft (rd (cN .u32) (.slice p' (mag r).length cap') (mag r)) :: As
theorem mag_one {b : Nat} (h : (mag b).length = 1) : b < 1000000000 ∧ (mag b)[0]? = some b := by
  have h1 := mag_lt_pow b
  rw [h, Nat.pow_one] at h1
  refine ⟨h1, ?_⟩
  have hb : b ≠ 0 := fun h0 => by rw [h0, mag_zero] at h; cases h
  rw [mag_pos hb, List.getElem?_cons_zero, Nat.mod_eq_of_lt h1]
theorem mag_single {s : Nat} (h0 : 0 < s) (h : s < 1000000000) : mag s = [s] := by
  rw [mag_pos (by omega), Nat.mod_eq_of_lt h, Nat.div_eq_of_lt h, mag_zero]
end Go.Proofs.YtldljckhfcoafaaGreatDoor
namespace Go.Sx
open Go
theorem mag_len_pw (x k : Nat) : (mag (x ^ k)).length ≤ (mag x).length * k + 1 := by
  refine mag_len_lt ?_
  have h1 : x ^ k ≤ (1000000000 ^ (mag x).length) ^ k := Nat.pow_le_pow_left (Nat.le_of_lt (mag_lt_pow x)) k
  rw [← Nat.pow_mul] at h1
  rw [Nat.pow_succ]
  have h2 : 0 < 1000000000 ^ ((mag x).length * k) := Nat.pow_pos (by omega)
  omega
theorem lt_pow_nDigits (n : Nat) : n < 10 ^ Lib.nDigits n := by
  have h := numOf_lt (l := Lib.decDigits n) (dec_dig n)
  rwa [numOf_dec, dec_len] at h
theorem nDigits_le_mag (n : Nat) : Lib.nDigits n ≤ 9 * (mag n).length + 1 := by
  by_cases h0 : n = 0
  · subst h0; rw [Lib.nDigits_small (by decide)]; omega
  · have h3 : (mag n).length ≠ 0 := fun h => h0 (mag_len0.1 h)
    obtain ⟨d, hd⟩ : ∃ d, (mag n)[(mag n).length - 1]? = some d := ⟨_, List.getElem?_eq_getElem (by omega)⟩
    obtain ⟨k1, k2, k3⟩ := mag_get hd
    have hl0 : n / 1000000000 ^ ((mag n).length - 1 + 1) = 0 := by
      rw [show (mag n).length - 1 + 1 = (mag n).length by omega]
      exact Nat.div_eq_of_lt (mag_lt_pow n)
    rw [nDigits_mag _ k2, k1, hl0, Nat.mul_zero, Nat.add_zero]
    have := nDigits_le (k := 8) (r := d) (by simpa using k3)
    omega
theorem mag_len_add (a b : Nat) : (mag (a + b)).length ≤ max (mag a).length (mag b).length + 1 := by
  refine mag_len_lt ?_
  have h1 := Nat.lt_of_lt_of_le (mag_lt_pow a) (Nat.pow_le_pow_right (n := 1000000000) (by omega) (Nat.le_max_left (mag a).length (mag b).length))
  have h2 := Nat.lt_of_lt_of_le (mag_lt_pow b) (Nat.pow_le_pow_right (n := 1000000000) (by omega) (Nat.le_max_right (mag a).length (mag b).length))
  rw [Nat.pow_succ]
  omega
end Go.Sx
namespace Go.Proofs.YtldljckhfcoafaaGreatDoor
open Go Go.Sx
variable {w0 : World} {As : List Ent}
theorem power_ok {v : Value} {x n : Nat} [hf : FtIn As v Nat (cN .u32) (mag x)] (hL : (mag x).length * n ≤ 90000000) (hx : (mag x).length ≤ 10000000) (hn : n ≤ 1000000) : CallsS Tryz.prog w0 107 [v, .int .i64 (n : Int)] As (MagR As (x ^ n)) := by
  refine magR_of ?_
  refine CallsS.of_tri Tryz.func107 rfl Tryz.ntmps107 rfl ?_
  have hm1 : mag 1 = [1] := mag_single (by omega) (by omega)
  (repeat' (first | (show TL _ _ _ _ (_ :: _) _ _ _; first | refine TL.sa ?_ | (refine TL.na ?_; intro _)) | (first | refine Stp.h ?_ | refine Post.then_normal ?_ | refine Post.next ?_ | refine Post.block_other rfl ?_) | refine Tri.ca ?_))
  rename_i b7
  refine Tri.loop (ι := Nat × Value) (fun s => s.1 ≤ n) (fun s => n - s.1)
    (fun s => [(5, s.2), (6, .func (.func 153) #[v] #[]), (10, .int .i64 (n : Int)), (11, .int .i64 (s.1 : Int))]) (fun s => .ft (rd (cN .u32) s.2 (mag (x ^ s.1))) :: As) (0, .slice (some ⟨b7, 0, none⟩) 1 1) (by omega) (by (exact Sub.au))
    (Ents.trans (Ents.clW (cN .u32) (mag (x ^ 0)) (by rw [Nat.pow_zero, hm1]; rfl) (by rw [Nat.pow_zero, hm1]; rfl) (by rw [Nat.pow_zero, hm1]; rfl)) Ents.freeze) ?_
  rintro ⟨k, pv⟩ hk
  simp only at hk
  show Tri _ _ _ _ [(5, pv), (6, .func (.func 153) #[v] #[]), (10, .int .i64 (n : Int)), (11, .int .i64 (k : Int))] (.ft (rd (cN .u32) pv (mag (x ^ k))) :: As) _
  (repeat' (first | (show TL _ _ _ _ (_ :: _) _ _ _; first | refine TL.sa ?_ | (refine TL.na ?_; intro _)) | (first | refine Stp.h ?_ | refine Post.then_normal ?_ | refine Post.next ?_ | refine Post.block_other rfl ?_) | refine Tri.ca ?_))
  ((show Tri _ _ _ (.cond _ _ _) _ _ _; first | refine Tri.condP rfl (fun hc => ?_) (fun hc => ?_) | refine Tri.condN rfl (fun hc => ?_) (fun hc => ?_)))
  · have h1 := mag_len_pw x k
    have h2 := Nat.mul_le_mul_left (mag x).length hk
    (repeat' (first | (show TL _ _ _ _ (_ :: _) _ _ _; first | refine TL.sa ?_ | (refine TL.na ?_; intro _)) | (first | refine Stp.h ?_ | refine Post.then_normal ?_ | refine Post.next ?_ | refine Post.block_other rfl ?_) | refine Tri.ca ?_))
    refine TL.callv rfl rfl rfl rfl (times_ok (a := x) (b := x ^ k) (by omega) (by omega)) ?_
    rintro _ _ ⟨p, cap, rfl, rfl⟩
    rw [Nat.mul_comm, ← Nat.pow_succ]
    (repeat' (first | (show TL _ _ _ _ (_ :: _) _ _ _; first | refine TL.sa ?_ | (refine TL.na ?_; intro _)) | (first | refine Stp.h ?_ | refine Post.then_normal ?_ | refine Post.next ?_ | refine Post.block_other rfl ?_) | refine Tri.ca ?_))
    exact Post.round (k + 1, .slice p (mag (x ^ (k + 1))).length cap) (by simp only; omega) (by simp only; omega) (by (exact Sub.au)) (by (exact Ents.au))
  · have hkn : k = n := by omega
    subst hkn
    (repeat' (first | (show TL _ _ _ _ (_ :: _) _ _ _; first | refine TL.sa ?_ | (refine TL.na ?_; intro _)) | (first | refine Stp.h ?_ | refine Post.then_normal ?_ | refine Post.next ?_ | refine Post.block_other rfl ?_) | refine Tri.ca ?_))
    (refine Post.ra ?_)
    exact ⟨_, rfl, by (exact Ents.au)⟩
end Go.Proofs.YtldljckhfcoafaaGreatDoor
