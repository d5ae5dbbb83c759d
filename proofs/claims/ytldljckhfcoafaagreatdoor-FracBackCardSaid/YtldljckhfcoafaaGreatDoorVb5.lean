/- Walks: the reference on whole numbers: quotients of lists of digits. -/
import Derived.Test.YtldljckhfcoafaaGreatDoorVb3
namespace Go.Sx
open Go
theorem qud_lt_of_len {a b : Nat} (h : (qud a).length < (qud b).length) : a < b := by
  have hb : b ≠ 0 := fun h0 => by rw [h0, qud_zero] at h; simp at h
  have h1 := qud_lt_pow a
  have h2 := pow_le_qud hb
  have := Nat.pow_le_pow_right (n := 10000) (by omega) (show (qud a).length ≤ (qud b).length - 1 by omega)
  omega
theorem qud_one {b : Nat} (h : (qud b).length = 1) : b < 10000 ∧ (qud b)[0]? = some b := by
  have h1 := qud_lt_pow b
  rw [h, Nat.pow_one] at h1
  refine ⟨h1, ?_⟩
  have hb : b ≠ 0 := fun h0 => by rw [h0, qud_zero] at h; cases h
  rw [qud_pos hb, List.getElem?_cons_zero, Nat.mod_eq_of_lt h1]
theorem short_ltQ' {d r g : Nat} (hr : r < d) (hg : g < 10000) : (r * 10000 + g) / d < 10000 := by
  rw [Nat.div_lt_iff_lt_mul (by omega)]
  have : (r + 1) * 10000 ≤ d * 10000 := Nat.mul_le_mul_right _ hr
  rw [Nat.mul_comm 10000 d]
  omega
/-- what the first digits tell -/
theorem half_bounds {b T K b' W F : Nat} (hb : b = T * K + b') (hb' : b' < K) (hF : F = W / K) (hT : 0 < T) : F / (T + 1) ≤ W / b ∧ W / b < F / T + 1 := by
  have hK : 0 < K := by omega
  have hb0 : 0 < b := by have := Nat.mul_pos hT hK; omega
  have h1 : F * K ≤ W := by rw [hF]; exact Nat.div_mul_le_self W K
  have h2 : W < (F + 1) * K := by rw [hF, Nat.mul_comm]; exact Nat.lt_mul_div_succ W hK
  constructor
  · rw [Nat.le_div_iff_mul_le hb0]
    calc F / (T + 1) * b ≤ F / (T + 1) * ((T + 1) * K) := Nat.mul_le_mul_left _ (by rw [hb, Nat.succ_mul]; omega)
      _ = F / (T + 1) * (T + 1) * K := by rw [Nat.mul_assoc]
      _ ≤ F * K := Nat.mul_le_mul_right _ (Nat.div_mul_le_self _ _)
      _ ≤ W := h1
  · apply Nat.lt_succ_of_le
    rw [Nat.le_div_iff_mul_le hT]
    have h3 : W / b * b ≤ W := Nat.div_mul_le_self W b
    have h4 : W / b * T * K < (F + 1) * K := by
      refine Nat.lt_of_le_of_lt ?_ h2
      refine Nat.le_trans ?_ h3
      rw [Nat.mul_assoc]
      exact Nat.mul_le_mul_left _ (by rw [hb]; omega)
    exact Nat.le_of_lt_succ (Nat.lt_of_mul_lt_mul_right h4)
theorem half_high {b T K b' W F : Nat} (hb : b = T * K + b') (hb' : b' < K) (hF : F = W / K) (hT : 10000 ≤ T) (hW : W < 10000 * b) : F / T + 1 ≤ 10001 := by
  have hK : 0 < K := by omega
  have h1 : F * K ≤ W := by rw [hF]; exact Nat.div_mul_le_self W K
  have h2 : F < 10000 * (T + 1) := by
    have h3 : F * K < 10000 * (T + 1) * K := by
      refine Nat.lt_of_le_of_lt h1 (Nat.lt_of_lt_of_le hW ?_)
      rw [Nat.mul_assoc]
      exact Nat.mul_le_mul_left _ (by rw [hb, Nat.succ_mul]; omega)
    exact Nat.lt_of_mul_lt_mul_right h3
  have h3 : F / T < 10001 := by
    rw [Nat.div_lt_iff_lt_mul (by omega)]
    omega
  omega
theorem rest_step {a b i d Q R : Nat} (hb : 0 < b) (ha : a / 10000 ^ i = d + 10000 * (a / 10000 ^ (i + 1))) (hQ : Q = a / 10000 ^ (i + 1) / b) (hR : R = a / 10000 ^ (i + 1) % b) : a / 10000 ^ i / b = (d + 10000 * R) / b + 10000 * Q ∧ a / 10000 ^ i % b = (d + 10000 * R) % b := by
  have h1 := Nat.div_add_mod (a / 10000 ^ (i + 1)) b
  rw [← hQ, ← hR] at h1
  have h2 : a / 10000 ^ i = (d + 10000 * R) + b * (10000 * Q) := by
    rw [ha, ← h1, Nat.mul_add, Nat.mul_left_comm]
    omega
  rw [h2, Nat.add_mul_div_left _ _ hb, Nat.add_mul_mod_self_left]
  exact ⟨rfl, rfl⟩
/-- the first digits of a number, one further -/
theorem first_step {W k F : Nat} (hF : F = W / 10000 ^ (k + 1)) : (∀ d, (qud W)[k]? = some d → F * 10000 + d = W / 10000 ^ k) ∧ ((qud W).length ≤ k → F * 10000 = W / 10000 ^ k) := by
  refine ⟨fun d hd => by have := (qud_get hd).1; omega, fun hk => ?_⟩
  have h1 := Nat.lt_of_lt_of_le (qud_lt_pow W) (Nat.pow_le_pow_right (n := 10000) (by omega) hk)
  have h2 := Nat.lt_of_lt_of_le h1 (Nat.pow_le_pow_right (n := 10000) (by omega) (show k ≤ k + 1 by omega))
  rw [hF, Nat.div_eq_of_lt h1, Nat.div_eq_of_lt h2]
theorem first_top {b m t0 t1 : Nat} (hm : (qud b).length = m + 2) (h0 : (qud b)[m]? = some t0) (h1 : (qud b)[m + 1]? = some t1) : t1 * 10000 + t0 = b / 10000 ^ m ∧ 0 < t1 := by
  have e0 := (qud_get h0).1
  obtain ⟨e1, e2, _⟩ := qud_get h1
  have h2 := qud_lt_pow b
  rw [hm] at h2
  rw [Nat.div_eq_of_lt h2] at e1
  omega
theorem first_bound {W m k : Nat} (h : W < 10000 ^ (m + 3)) (hk : m ≤ k) : W / 10000 ^ (k + 1) < 100000000 := by
  refine Nat.lt_of_le_of_lt (Nat.div_le_div_left (Nat.pow_le_pow_right (by omega) (show m + 1 ≤ k + 1 by omega)) (Nat.pow_pos (by omega))) ?_
  rw [Nat.div_lt_iff_lt_mul (Nat.pow_pos (by omega))]
  rw [show m + 3 = (m + 1) + 2 by omega, Nat.pow_add] at h
  omega
end Go.Sx
namespace Go.Proofs.YtldljckhfcoafaaGreatDoor
open Go Go.Sx
variable {w0 : World} {As : List Ent}
def OnceR (As : List Ent) (q r : Nat) (u : Value) (Bs : List Ent) : Prop := ∃ p cap, u = .tuple #[.slice p (qud q).length cap, .int .i64 (r : Int)] ∧ Bs = .ft (rd (cN .i64) (.slice p (qud q).length cap) (qud q)) :: As
theorem onceR_ok {v : Value} {a d : Nat} [hf : RdIn As v Nat (cN .i64) (qud a)] (ha : (qud a).length ≤ 100000000) (hd0 : 0 < d) (hd9 : d < 10000) : CallsS Tryz.prog w0 162 [v, .int .i64 (d : Int)] As (OnceR As (a / d) (a % d)) := by
  have hsa := qud_small a
  have hrl : (List.replicate (qud a).length 0).length = (qud a).length := List.length_replicate
  refine CallsS.of_tri Tryz.func162 rfl Tryz.ntmps162 rfl ?_
  (repeat' (first | (show TL _ _ _ _ (_ :: _) _ _ _; first | refine TL.sa ?_ | (refine TL.na ?_; intro _)) | (first | refine Stp.h ?_ | refine Post.then_normal ?_ | refine Post.next ?_ | refine Post.block_other rfl ?_) | refine Tri.ca ?_))
  rename_i sv
  refine Tri.loop (ι := Nat × List Nat × Nat) (fun s => s.1 ≤ (qud a).length ∧ s.2.1.length = (qud a).length ∧ (∀ x ∈ s.2.1, x < 10000) ∧ s.2.2 < d ∧ valQ (s.2.1.drop s.1) * d + s.2.2 = valQ ((qud a).drop s.1)) (fun s => s.1)
    (fun s => [(0, v), (1, .int .i64 (d : Int)), (6, sv), (7, .int .i64 (s.2.2 : Int)), (8, .int .i64 ((s.1 : Int) - 1))]) (fun s => .ow (cN .i64) 3 sv s.2.1 :: As)
    ((qud a).length, List.replicate (qud a).length 0, 0) ⟨Nat.le_refl _, hrl, small_repQ _, hd0, by simp [valQ]⟩ (by (exact Sub.au)) (by (exact Ents.au)) ?_
  rintro ⟨j, xs, r⟩ ⟨hj, hxl, hxs, hr, hval⟩
  simp only at hj hxl hxs hr hval
  cases j with
  | zero =>
    rw [List.drop_zero, List.drop_zero, valQ_qud] at hval
    obtain ⟨e1, e2⟩ := div_mod_of hval hr
    show Tri _ _ _ _ [(0, v), (1, .int .i64 (d : Int)), (6, sv), (7, .int .i64 (r : Int)), (8, .int .i64 (((0 : Nat) : Int) - 1))] (.ow (cN .i64) 3 sv xs :: As) _
    rw [show ((0 : Nat) : Int) - 1 = -1 from rfl]
    (repeat' (first | (show TL _ _ _ _ (_ :: _) _ _ _; first | refine TL.sa ?_ | (refine TL.na ?_; intro _)) | (first | refine Stp.h ?_ | refine Post.then_normal ?_ | refine Post.next ?_ | refine Post.block_other rfl ?_) | refine Tri.ca ?_))
    refine TL.ents Ents.freeze ?_
    refine TL.call rfl rfl rfl (cut_ok hxs (by omega)) ?_
    rintro _ _ ⟨p, cap, rfl, rfl⟩
    (repeat' (first | (show TL _ _ _ _ (_ :: _) _ _ _; first | refine TL.sa ?_ | (refine TL.na ?_; intro _)) | (first | refine Stp.h ?_ | refine Post.then_normal ?_ | refine Post.next ?_ | refine Post.block_other rfl ?_) | refine Tri.ca ?_))
    (refine Post.ra ?_)
    rw [e1, e2]
    exact ⟨_, ⟨p, cap, rfl, rfl⟩, by (exact Ents.au)⟩
  | succ j =>
    obtain ⟨g, hg⟩ : ∃ g, (qud a)[j]? = some g := ⟨_, List.getElem?_eq_getElem (by omega)⟩
    have hg9 := hsa g (List.mem_of_getElem? hg)
    have hq9 := short_ltQ' hr hg9
    have hqr : (r * 10000 + g) % d < d := Nat.mod_lt _ hd0
    have hset : (xs.set j ((r * 10000 + g) / d))[j]? = some ((r * 10000 + g) / d) := by rw [List.getElem?_set, if_pos rfl, if_pos (by omega)]
    have hnew : valQ ((xs.set j ((r * 10000 + g) / d)).drop j) * d + (r * 10000 + g) % d = valQ ((qud a).drop j) := by
      rw [valQ_drop hset, valQ_drop hg, List.drop_set_of_lt (by omega)]
      exact short_stepQ hval rfl
    have hqe : ((r : Int) * 10000 + g) / (d : Int) = (((r * 10000 + g) / d : Nat) : Int) := by rw [Int.natCast_ediv]; rfl
    show Tri _ _ _ _ [(0, v), (1, .int .i64 (d : Int)), (6, sv), (7, .int .i64 (r : Int)), (8, .int .i64 (((j + 1 : Nat) : Int) - 1))] (.ow (cN .i64) 3 sv xs :: As) _
    rw [show ((j + 1 : Nat) : Int) - 1 = (j : Int) by omega]
    (repeat' (first | (show TL _ _ _ _ (_ :: _) _ _ _; first | refine TL.sa ?_ | (refine TL.na ?_; intro _)) | (first | refine Stp.h ?_ | refine Post.then_normal ?_ | refine Post.next ?_ | refine Post.block_other rfl ?_) | refine Tri.ca ?_))
    rw [hqe]
    (repeat' (first | (show TL _ _ _ _ (_ :: _) _ _ _; first | refine TL.sa ?_ | (refine TL.na ?_; intro _)) | (first | refine Stp.h ?_ | refine Post.then_normal ?_ | refine Post.next ?_ | refine Post.block_other rfl ?_) | refine Tri.ca ?_))
    exact Post.round (j, xs.set j ((r * 10000 + g) / d), (r * 10000 + g) % d) ⟨by simp only; omega, by simpa using hxl, small_setQ hxs hq9, hqr, hnew⟩ (by simp only; omega) (by (exact Sub.au)) (Ents.refl _)
/-- quotient and remainder -/
def DivQ (As : List Ent) (q r : Nat) (u : Value) (Bs : List Ent) : Prop := ∃ p cap p' cap', u = .tuple #[.slice p (qud q).length cap, .slice p' (qud r).length cap'] ∧ Bs = .ft (rd (cN .i64) (.slice p (qud q).length cap) (qud q)) :: .ft (rd (cN .i64) (.slice p' (qud r).length cap') (qud r)) :: As
theorem partsR_ok {v o : Value} {a b : Nat} [hf : RdIn As v Nat (cN .i64) (qud a)] [hg : RdIn As o Nat (cN .i64) (qud b)] (hb0 : b ≠ 0) (ha : (qud a).length ≤ 1000000) (hbl : (qud b).length ≤ 1000000) : CallsS Tryz.prog w0 120 [v, o] As (DivQ As (a / b) (a % b)) := by
  have hsa := qud_small a
  have hsb := qud_small b
  have hbl0 : (qud b).length ≠ 0 := fun h => hb0 (qud_len0.1 h)
  refine CallsS.of_tri Tryz.func120 rfl Tryz.ntmps120 rfl ?_
  (repeat' (first | (show TL _ _ _ _ (_ :: _) _ _ _; first | refine TL.sa ?_ | (refine TL.na ?_; intro _)) | (first | refine Stp.h ?_ | refine Post.then_normal ?_ | refine Post.next ?_ | refine Post.block_other rfl ?_) | refine Tri.ca ?_))
  by_cases h1 : (qud b).length = 1
  · obtain ⟨hb9, hbg⟩ := qud_one h1
    have hr9 : a % b < b := Nat.mod_lt _ (by omega)
    (repeat' (first | (show TL _ _ _ _ (_ :: _) _ _ _; first | refine TL.sa ?_ | (refine TL.na ?_; intro _)) | (first | refine Stp.h ?_ | refine Post.then_normal ?_ | refine Post.next ?_ | refine Post.block_other rfl ?_) | refine Tri.ca ?_))
    refine TL.call rfl rfl rfl (onceR_ok (a := a) (d := b) (by omega) (by omega) hb9) ?_
    rintro _ _ ⟨p, cap, rfl, rfl⟩
    (repeat' (first | (show TL _ _ _ _ (_ :: _) _ _ _; first | refine TL.sa ?_ | (refine TL.na ?_; intro _)) | (first | refine Stp.h ?_ | refine Post.then_normal ?_ | refine Post.next ?_ | refine Post.block_other rfl ?_) | refine Tri.ca ?_))
    refine TL.ents (Ents.clW (n := 1) (cap := 1) (cN .i64) [a % b] rfl rfl rfl) ?_
    refine TL.ents Ents.freeze ?_
    refine TL.call rfl rfl rfl (cut_ok (xs := [a % b]) (fun x hx => by rw [List.mem_singleton.1 hx]; omega) (by simp)) ?_
    rintro _ _ ⟨p', cap', rfl, rfl⟩
    rw [show valQ [a % b] = a % b by simp [valQ]]
    (repeat' (first | (show TL _ _ _ _ (_ :: _) _ _ _; first | refine TL.sa ?_ | (refine TL.na ?_; intro _)) | (first | refine Stp.h ?_ | refine Post.then_normal ?_ | refine Post.next ?_ | refine Post.block_other rfl ?_) | refine Tri.ca ?_))
    (refine Post.ra ?_)
    exact ⟨_, ⟨p, cap, p', cap', rfl, rfl⟩, by (exact Ents.au)⟩
  obtain ⟨m, hm⟩ : ∃ m, (qud b).length = m + 2 := ⟨(qud b).length - 2, by omega⟩
  (repeat' (first | (show TL _ _ _ _ (_ :: _) _ _ _; first | refine TL.sa ?_ | (refine TL.na ?_; intro _)) | (first | refine Stp.h ?_ | refine Post.then_normal ?_ | refine Post.next ?_ | refine Post.block_other rfl ?_) | refine Tri.ca ?_))
  by_cases hlt : (qud a).length ≤ (qud b).length - 1
  · have hab : a < b := qud_lt_of_len (by omega)
    rw [Nat.div_eq_of_lt hab, Nat.mod_eq_of_lt hab]
    (repeat' (first | (show TL _ _ _ _ (_ :: _) _ _ _; first | refine TL.sa ?_ | (refine TL.na ?_; intro _)) | (first | refine Stp.h ?_ | refine Post.then_normal ?_ | refine Post.next ?_ | refine Post.block_other rfl ?_) | refine Tri.ca ?_))
    rename_i sv
    refine Post.rdSl (c := cN .i64) (xs := qud a) sv ?_
    rintro p cap rfl
    refine Post.entsK Ents.freeze ?_
    refine Post.entsK (Ents.nilW (T := 3) (cN .i64)) ?_
    refine Post.entsK Ents.freeze ?_
    (refine Post.ra ?_)
    exact ⟨_, ⟨none, 0, p, cap, by rw [qud_zero]; rfl, by rw [qud_zero]⟩, by (exact Ents.au)⟩
  obtain ⟨t0, ht0⟩ : ∃ g, (qud b)[m]? = some g := ⟨_, List.getElem?_eq_getElem (by omega)⟩
  obtain ⟨t1, ht1⟩ : ∃ g, (qud b)[m + 1]? = some g := ⟨_, List.getElem?_eq_getElem (by omega)⟩
  have ht09 := hsb t0 (List.mem_of_getElem? ht0)
  have ht19 := hsb t1 (List.mem_of_getElem? ht1)
  rw [show (((qud b).length - 1 : Nat) : Int) = ((m + 1 : Nat) : Int) by omega]
  (repeat' (first | (show TL _ _ _ _ (_ :: _) _ _ _; first | refine TL.sa ?_ | (refine TL.na ?_; intro _)) | (first | refine Stp.h ?_ | refine Post.then_normal ?_ | refine Post.next ?_ | refine Post.block_other rfl ?_) | refine Tri.ca ?_))
  refine Tri.dr (.take 0 (.take 1 (.take 2 (.take 3 (.take 4 (.take 5 (.take 6 (.take 7 (.take 8 (.take 9 (.take 10 (.take 11 (.done))))))))))))) ?_
  obtain ⟨hTd, ht1p⟩ := first_top hm ht0 ht1
  obtain ⟨N, hN⟩ : ∃ N, (qud a).length = N + (m + 1) := ⟨(qud a).length - (m + 1), by omega⟩
  obtain ⟨T, hT⟩ : ∃ T, T = t1 * 10000 + t0 := ⟨_, rfl⟩
  have hrl : (List.replicate N 0).length = N := List.length_replicate
  (repeat' (first | (show TL _ _ _ _ (_ :: _) _ _ _; first | refine TL.sa ?_ | (refine TL.na ?_; intro _)) | (first | refine Stp.h ?_ | refine Post.then_normal ?_ | refine Post.next ?_ | refine Post.block_other rfl ?_) | (show TT _ _ _ _ _ _ _ _ _; refine TT.sa ?_) | exact TTs.nil | refine TTs.cons ?_ ?_ | (show T1 _ _ _ _ _ _ _ _ _ _; first | refine T1.sa ?_ | (refine T1.na ?_; intro _)) | (show TC _ _ _ _ _ _ _ _ _ _; first | refine TC.goa ?_ | refine TC.fina ?_) | refine Tri.ca ?_))
  rw [show (t1 : Int) * 10000 + (t0 : Int) = (T : Int) by omega, show ((qud a).length : Int) - ((m + 1 : Nat) : Int) = (N : Int) by omega]
  (repeat' (first | (show TL _ _ _ _ (_ :: _) _ _ _; first | refine TL.sa ?_ | (refine TL.na ?_; intro _)) | (first | refine Stp.h ?_ | refine Post.then_normal ?_ | refine Post.next ?_ | refine Post.block_other rfl ?_) | (show TT _ _ _ _ _ _ _ _ _; refine TT.sa ?_) | exact TTs.nil | refine TTs.cons ?_ ?_ | (show T1 _ _ _ _ _ _ _ _ _ _; first | refine T1.sa ?_ | (refine T1.na ?_; intro _)) | (show TC _ _ _ _ _ _ _ _ _ _; first | refine TC.goa ?_ | refine TC.fina ?_) | refine Tri.ca ?_))
  rw [show ((qud a).length : Int) - ((m + 1 : Nat) : Int) = (N : Int) by omega]
  (repeat' (first | (show TL _ _ _ _ (_ :: _) _ _ _; first | refine TL.sa ?_ | (refine TL.na ?_; intro _)) | (first | refine Stp.h ?_ | refine Post.then_normal ?_ | refine Post.next ?_ | refine Post.block_other rfl ?_) | (show TT _ _ _ _ _ _ _ _ _; refine TT.sa ?_) | exact TTs.nil | refine TTs.cons ?_ ?_ | (show T1 _ _ _ _ _ _ _ _ _ _; first | refine T1.sa ?_ | (refine T1.na ?_; intro _)) | (show TC _ _ _ _ _ _ _ _ _ _; first | refine TC.goa ?_ | refine TC.fina ?_) | refine Tri.ca ?_))
  refine TL.f rfl rfl (ExF.sliceRd (lo := N) rfl (evLo.so rfl) evHi.no (by omega) (Nat.le_refl _)) ?_
  have hdn : (qud a).drop N = qud (a / 10000 ^ N) := qud_drop a N
  haveI hsub : RdIn As (subV 1 v N (qud a).length) Nat (cN .i64) (qud (a / 10000 ^ N)) := by rw [← hdn]; exact RdIn.from rfl rfl (by omega)
  have hdl : (qud (a / 10000 ^ N)).length = m + 1 := by rw [← hdn, List.length_drop]; omega
  have hbN : a / 10000 ^ N < b := qud_lt_of_len (by rw [hdl]; omega)
  (repeat' (first | (show TL _ _ _ _ (_ :: _) _ _ _; first | refine TL.sa ?_ | (refine TL.na ?_; intro _)) | (first | refine Stp.h ?_ | refine Post.then_normal ?_ | refine Post.next ?_ | refine Post.block_other rfl ?_) | (show TT _ _ _ _ _ _ _ _ _; refine TT.sa ?_) | exact TTs.nil | refine TTs.cons ?_ ?_ | (show T1 _ _ _ _ _ _ _ _ _ _; first | refine T1.sa ?_ | (refine T1.na ?_; intro _)) | (show TC _ _ _ _ _ _ _ _ _ _; first | refine TC.goa ?_ | refine TC.fina ?_) | refine Tri.ca ?_))
  rename_i sv bb rv
  rw [show (((List.replicate N 0).length - 1 : Nat) : Int) = (N : Int) - 1 by omega]
  refine Tri.loop (ι := Nat × List Nat × Value) (fun s => s.1 ≤ N ∧ s.2.1.length = N ∧ (∀ x ∈ s.2.1, x < 10000) ∧ valQ (s.2.1.drop s.1) = a / 10000 ^ s.1 / b) (fun s => s.1)
    (fun s => [(0, v), (1, o), (8, .int .i64 ((m + 1 : Nat) : Int)), (9, .int .i64 (T : Int)), (10, sv), (11, s.2.2), (12, .int .i64 ((s.1 : Int) - 1))])
    (fun s => .ft (rd (cN .i64) s.2.2 (qud (a / 10000 ^ s.1 % b))) :: .ow (cN .i64) 3 sv s.2.1 :: As)
    (N, List.replicate N 0, rv) ⟨Nat.le_refl _, hrl, small_repQ _, by rw [List.drop_of_length_le (by rw [hrl]; exact Nat.le_refl _), Nat.div_eq_of_lt hbN]; rfl⟩ (by (exact Sub.au))
    (by simp only; rw [Nat.mod_eq_of_lt hbN]; exact Ents.trans Ents.freeze (by (exact Ents.au))) ?_
  rintro ⟨j, xs, rv⟩ ⟨hj, hxl, hxs, hval⟩
  simp only at hj hxl hxs hval
  cases j with
  | zero =>
    rw [List.drop_zero, Nat.pow_zero, Nat.div_one] at hval
    show Tri _ _ _ _ [(0, v), (1, o), (8, .int .i64 ((m + 1 : Nat) : Int)), (9, .int .i64 (T : Int)), (10, sv), (11, rv), (12, .int .i64 (((0 : Nat) : Int) - 1))] (.ft (rd (cN .i64) rv (qud (a / 10000 ^ 0 % b))) :: .ow (cN .i64) 3 sv xs :: As) _
    rw [Nat.pow_zero, Nat.div_one, show ((0 : Nat) : Int) - 1 = -1 from rfl]
    refine Tri.rdSl (c := cN .i64) (xs := qud (a % b)) rv ?_
    rintro p' cap' rfl
    (repeat' (first | (show TL _ _ _ _ (_ :: _) _ _ _; first | refine TL.sa ?_ | (refine TL.na ?_; intro _)) | (first | refine Stp.h ?_ | refine Post.then_normal ?_ | refine Post.next ?_ | refine Post.block_other rfl ?_) | refine Tri.ca ?_))
    refine TL.ents (Ents.trans (Ents.perm (List.Perm.swap _ _ _)) Ents.freeze) ?_
    refine TL.call rfl rfl rfl (cut_ok hxs (by omega)) ?_
    rintro _ _ ⟨p, cap, rfl, rfl⟩
    rw [hval]
    (repeat' (first | (show TL _ _ _ _ (_ :: _) _ _ _; first | refine TL.sa ?_ | (refine TL.na ?_; intro _)) | (first | refine Stp.h ?_ | refine Post.then_normal ?_ | refine Post.next ?_ | refine Post.block_other rfl ?_) | refine Tri.ca ?_))
    (refine Post.ra ?_)
    exact ⟨_, ⟨p, cap, p', cap', rfl, rfl⟩, by (exact Ents.au)⟩
  | succ j =>
    obtain ⟨d, hd⟩ : ∃ d, (qud a)[j]? = some d := ⟨_, List.getElem?_eq_getElem (by omega)⟩
    have hd9 := hsa d (List.mem_of_getElem? hd)
    obtain ⟨R, hR⟩ : ∃ R, R = a / 10000 ^ (j + 1) % b := ⟨_, rfl⟩
    have hRb : R < b := by rw [hR]; exact Nat.mod_lt _ (by omega)
    have hRl := qud_len_le (Nat.le_of_lt hRb)
    have hsr := qud_small R
    obtain ⟨hstep1, hstep2⟩ := rest_step (i := j) (Q := a / 10000 ^ (j + 1) / b) (by omega) (qud_get hd).1 rfl hR
    show Tri _ _ _ _ [(0, v), (1, o), (8, .int .i64 ((m + 1 : Nat) : Int)), (9, .int .i64 (T : Int)), (10, sv), (11, rv), (12, .int .i64 (((j + 1 : Nat) : Int) - 1))] (.ft (rd (cN .i64) rv (qud (a / 10000 ^ (j + 1) % b))) :: .ow (cN .i64) 3 sv xs :: As) _
    rw [← hR, show ((j + 1 : Nat) : Int) - 1 = (j : Int) by omega]
    (repeat' (first | (show TL _ _ _ _ (_ :: _) _ _ _; first | refine TL.sa ?_ | (refine TL.na ?_; intro _)) | (first | refine Stp.h ?_ | refine Post.then_normal ?_ | refine Post.next ?_ | refine Post.block_other rfl ?_) | refine Tri.ca ?_))
    refine TL.ents (Ents.clW (n := 1) (cap := 1) (cN .i64) [d] rfl rfl rfl) ?_
    (repeat' (first | (show TL _ _ _ _ (_ :: _) _ _ _; first | refine TL.sa ?_ | (refine TL.na ?_; intro _)) | (first | refine Stp.h ?_ | refine Post.then_normal ?_ | refine Post.next ?_ | refine Post.block_other rfl ?_) | refine Tri.ca ?_))
    refine TL.ents Ents.freeze ?_
    refine TL.call rfl rfl rfl (cut_ok (xs := [d] ++ qud R) (fun x hx => by rcases List.mem_append.1 hx with h | h; (rw [List.mem_singleton.1 h]; exact hd9); exact hsr x h) (by simp only [List.length_append, List.length_singleton]; omega)) ?_
    rintro _ _ ⟨pw, cw, rfl, rfl⟩
    rw [show valQ ([d] ++ qud R) = d + 10000 * R by rw [valQ_append, valQ_qud]; simp [valQ]]
    obtain ⟨W, hW⟩ : ∃ W, W = d + 10000 * R := ⟨_, rfl⟩
    rw [← hW] at hstep1 hstep2 ⊢
    have hWb : W < 10000 * b := by omega
    have hbp := qud_lt_pow b
    rw [hm] at hbp
    have hW3 : W < 10000 ^ (m + 3) := by rw [show m + 3 = (m + 2) + 1 by omega, Nat.pow_succ]; omega
    have hWl := qud_len_lt hW3
    (repeat' (first | (show TL _ _ _ _ (_ :: _) _ _ _; first | refine TL.sa ?_ | (refine TL.na ?_; intro _)) | (first | refine Stp.h ?_ | refine Post.then_normal ?_ | refine Post.next ?_ | refine Post.block_other rfl ?_) | refine Tri.ca ?_))
    refine Tri.loop (ι := Nat × Nat) (fun s => m ≤ s.1 ∧ s.1 ≤ m + 3 ∧ s.2 = W / 10000 ^ s.1) (fun s => s.1)
      (fun s => [(0, v), (1, o), (8, .int .i64 ((m + 1 : Nat) : Int)), (9, .int .i64 (T : Int)), (10, sv), (11, .slice pw (qud W).length cw), (12, .int .i64 (j : Int)), (13, .int .i64 (s.2 : Int)), (14, .int .i64 ((s.1 : Int) - 1))])
      (fun _ => .ft (rd (cN .i64) (.slice pw (qud W).length cw) (qud W)) :: .ow (cN .i64) 3 sv xs :: As)
      (m + 3, 0) ⟨by simp only; omega, by simp only; omega, by rw [Nat.div_eq_of_lt hW3]⟩ (by rw [show ((m + 1 : Nat) : Int) + 1 = ((m + 3 : Nat) : Int) - 1 by omega]; (exact Sub.au)) (by (exact Ents.au)) ?_
    rintro ⟨k, F⟩ ⟨hk1, hk2, hF⟩
    simp only at hk1 hk2 hF
    show Tri _ _ _ _ [(0, v), (1, o), (8, .int .i64 ((m + 1 : Nat) : Int)), (9, .int .i64 (T : Int)), (10, sv), (11, .slice pw (qud W).length cw), (12, .int .i64 (j : Int)), (13, .int .i64 (F : Int)), (14, .int .i64 ((k : Int) - 1))] (.ft (rd (cN .i64) (.slice pw (qud W).length cw) (qud W)) :: .ow (cN .i64) 3 sv xs :: As) _
    by_cases hkm : k = m
    · rw [hkm] at hF ⊢
      have hTe : T = b / 10000 ^ m := by rw [hT, hTd]
      have hbT : b = T * 10000 ^ m + b % 10000 ^ m := by rw [hTe]; exact (Nat.div_add_mod' b (10000 ^ m)).symm
      have hbm : b % 10000 ^ m < 10000 ^ m := Nat.mod_lt _ (Nat.pow_pos (by omega))
      obtain ⟨hlo, hhi⟩ := half_bounds hbT hbm hF (by omega)
      have hhi9 := half_high hbT hbm hF (by omega) hWb
      obtain ⟨Q, hQ⟩ : ∃ Q, Q = W / b := ⟨_, rfl⟩
      rw [← hQ] at hlo hhi hstep1
      obtain ⟨lo, hloe⟩ : ∃ lo, lo = F / (T + 1) := ⟨_, rfl⟩
      obtain ⟨hi, hhie⟩ : ∃ hi, hi = F / T := ⟨_, rfl⟩
      rw [← hloe] at hlo
      rw [← hhie] at hhi hhi9
      have hF12 : F < 1000000000000 := by
        rw [hF, Nat.div_lt_iff_lt_mul (Nat.pow_pos (by omega))]
        rw [Nat.pow_add] at hW3
        omega
      have e1 : (F : Int) / ((T : Int) + 1) = (lo : Int) := by rw [hloe, Int.natCast_ediv]; rfl
      have e2 : (F : Int) / (T : Int) = (hi : Int) := by rw [hhie, Int.natCast_ediv]
      have hQ9 : Q < 10000 := by rw [hQ, Nat.div_lt_iff_lt_mul (by omega)]; exact hWb
      (repeat' (first | (show TL _ _ _ _ (_ :: _) _ _ _; first | refine TL.sa ?_ | (refine TL.na ?_; intro _)) | (first | refine Stp.h ?_ | refine Post.then_normal ?_ | refine Post.next ?_ | refine Post.block_other rfl ?_) | refine Tri.ca ?_))
      refine Tri.dr (.take 0 (.take 1 (.take 2 (.take 3 (.take 4 (.take 5 (.take 6 (.take 7 (.take 8 (.take 9 (.done))))))))))) ?_
      (repeat' (first | (show TL _ _ _ _ (_ :: _) _ _ _; first | refine TL.sa ?_ | (refine TL.na ?_; intro _)) | (first | refine Stp.h ?_ | refine Post.then_normal ?_ | refine Post.next ?_ | refine Post.block_other rfl ?_) | (show TT _ _ _ _ _ _ _ _ _; refine TT.sa ?_) | exact TTs.nil | refine TTs.cons ?_ ?_ | (show T1 _ _ _ _ _ _ _ _ _ _; first | refine T1.sa ?_ | (refine T1.na ?_; intro _)) | (show TC _ _ _ _ _ _ _ _ _ _; first | refine TC.goa ?_ | refine TC.fina ?_) | refine Tri.ca ?_))
      rw [e1, e2]
      refine Tri.loop (ι := Nat × Nat) (fun s => s.1 ≤ Q ∧ Q < s.2 ∧ s.2 ≤ 10001) (fun s => s.2 - s.1)
        (fun s => [(0, v), (1, o), (8, .int .i64 ((m + 1 : Nat) : Int)), (9, .int .i64 (T : Int)), (10, sv), (11, .slice pw (qud W).length cw), (12, .int .i64 (j : Int)), (15, .int .i64 (s.1 : Int)), (16, .int .i64 (s.2 : Int))])
        (fun _ => .ft (rd (cN .i64) (.slice pw (qud W).length cw) (qud W)) :: .ow (cN .i64) 3 sv xs :: As)
        (lo, hi + 1) ⟨hlo, hhi, hhi9⟩ (by (exact Sub.au)) (by (exact Ents.au)) ?_
      clear hloe hhie hlo hhi hhi9 e1 e2 hF hF12
      rintro ⟨lo, hi⟩ ⟨hlo, hhi, hhi9⟩
      simp only at hlo hhi hhi9
      show Tri _ _ _ _ [(0, v), (1, o), (8, .int .i64 ((m + 1 : Nat) : Int)), (9, .int .i64 (T : Int)), (10, sv), (11, .slice pw (qud W).length cw), (12, .int .i64 (j : Int)), (15, .int .i64 (lo : Int)), (16, .int .i64 (hi : Int))] (.ft (rd (cN .i64) (.slice pw (qud W).length cw) (qud W)) :: .ow (cN .i64) 3 sv xs :: As) _
      (repeat' (first | (show TL _ _ _ _ (_ :: _) _ _ _; first | refine TL.sa ?_ | (refine TL.na ?_; intro _)) | (first | refine Stp.h ?_ | refine Post.then_normal ?_ | refine Post.next ?_ | refine Post.block_other rfl ?_) | (show TT _ _ _ _ _ _ _ _ _; refine TT.sa ?_) | exact TTs.nil | refine TTs.cons ?_ ?_ | (show T1 _ _ _ _ _ _ _ _ _ _; first | refine T1.sa ?_ | (refine T1.na ?_; intro _)) | (show TC _ _ _ _ _ _ _ _ _ _; first | refine TC.goa ?_ | refine TC.fina ?_) | refine Tri.ca ?_))
      by_cases hgap : 1 < hi - lo
      · obtain ⟨M, hM⟩ : ∃ M, M = (lo + hi) / 2 := ⟨_, rfl⟩
        have hM1 : lo < M := by omega
        have hM2 : M < hi := by omega
        have hpl := qud_len_mul b M
        have hMl : (qud M).length ≤ 2 := qud_len_lt (by omega)
        (repeat' (first | (show TL _ _ _ _ (_ :: _) _ _ _; first | refine TL.sa ?_ | (refine TL.na ?_; intro _)) | (first | refine Stp.h ?_ | refine Post.then_normal ?_ | refine Post.next ?_ | refine Post.block_other rfl ?_) | (show TT _ _ _ _ _ _ _ _ _; refine TT.sa ?_) | exact TTs.nil | refine TTs.cons ?_ ?_ | (show T1 _ _ _ _ _ _ _ _ _ _; first | refine T1.sa ?_ | (refine T1.na ?_; intro _)) | (show TC _ _ _ _ _ _ _ _ _ _; first | refine TC.goa ?_ | refine TC.fina ?_) | refine Tri.ca ?_))
        rw [show ((lo : Int) + (hi : Int)) / 2 = (M : Int) by omega]
        (repeat' (first | (show TL _ _ _ _ (_ :: _) _ _ _; first | refine TL.sa ?_ | (refine TL.na ?_; intro _)) | (first | refine Stp.h ?_ | refine Post.then_normal ?_ | refine Post.next ?_ | refine Post.block_other rfl ?_) | (show TT _ _ _ _ _ _ _ _ _; refine TT.sa ?_) | exact TTs.nil | refine TTs.cons ?_ ?_ | (show T1 _ _ _ _ _ _ _ _ _ _; first | refine T1.sa ?_ | (refine T1.na ?_; intro _)) | (show TC _ _ _ _ _ _ _ _ _ _; first | refine TC.goa ?_ | refine TC.fina ?_) | refine Tri.ca ?_))
        refine TL.ents (Ents.clW (n := 1) (cap := 1) (cN .i64) [M] rfl rfl rfl) ?_
        refine TL.ents Ents.freeze ?_
        refine TL.call rfl rfl rfl (productR_ok (xs := qud b) (ys := [M]) hsb (fun y hy => by rw [List.mem_singleton.1 hy]; omega) (by simp [valQ]; omega) (by omega) (by simp)) ?_
        rintro _ _ ⟨pp, cp, rfl, rfl⟩
        rw [valQ_qud, show valQ [M] = M by simp [valQ]]
        (repeat' (first | (show TL _ _ _ _ (_ :: _) _ _ _; first | refine TL.sa ?_ | (refine TL.na ?_; intro _)) | (first | refine Stp.h ?_ | refine Post.then_normal ?_ | refine Post.next ?_ | refine Post.block_other rfl ?_) | refine Tri.ca ?_))
        refine TL.call rfl rfl rfl (cut_ok (xs := qud (b * M)) (qud_small _) (by omega)) ?_
        rintro _ _ ⟨pq, cq, rfl, rfl⟩
        rw [valQ_qud]
        (repeat' (first | (show TL _ _ _ _ (_ :: _) _ _ _; first | refine TL.sa ?_ | (refine TL.na ?_; intro _)) | (first | refine Stp.h ?_ | refine Post.then_normal ?_ | refine Post.next ?_ | refine Post.block_other rfl ?_) | refine Tri.ca ?_))
        refine TL.call rfl rfl rfl (orderR_ok (a := b * M) (b := W) (by omega) (by omega)) ?_
        rintro _ _ ⟨r, rfl, hr, rfl⟩
        (repeat' (first | (show TL _ _ _ _ (_ :: _) _ _ _; first | refine TL.sa ?_ | (refine TL.na ?_; intro _)) | (first | refine Stp.h ?_ | refine Post.then_normal ?_ | refine Post.next ?_ | refine Post.block_other rfl ?_) | refine Tri.ca ?_))
        by_cases hr0 : r ≤ 0
        · have hMQ : M ≤ Q := by rw [hQ, Nat.le_div_iff_mul_le (by omega), Nat.mul_comm]; omega
          (repeat' (first | (show TL _ _ _ _ (_ :: _) _ _ _; first | refine TL.sa ?_ | (refine TL.na ?_; intro _)) | (first | refine Stp.h ?_ | refine Post.then_normal ?_ | refine Post.next ?_ | refine Post.block_other rfl ?_) | refine Tri.ca ?_))
          exact Post.round (M, hi) ⟨hMQ, hhi, hhi9⟩ (by simp only; omega) (by (exact Sub.au)) (by (exact Ents.au))
        · have hMQ : Q < M := by rw [hQ, Nat.div_lt_iff_lt_mul (by omega), Nat.mul_comm]; omega
          (repeat' (first | (show TL _ _ _ _ (_ :: _) _ _ _; first | refine TL.sa ?_ | (refine TL.na ?_; intro _)) | (first | refine Stp.h ?_ | refine Post.then_normal ?_ | refine Post.next ?_ | refine Post.block_other rfl ?_) | refine Tri.ca ?_))
          exact Post.round (lo, M) ⟨hlo, hMQ, by simp only; omega⟩ (by simp only; omega) (by (exact Sub.au)) (by (exact Ents.au))
      obtain rfl : lo = Q := by omega
      have hbq : b * lo ≤ W := by rw [hQ]; exact Nat.mul_div_le W b
      have hrest : W - b * lo = a / 10000 ^ j % b := by rw [hstep2, hQ, Nat.mod_eq_sub_mul_div]
      have hset : (xs.set j lo)[j]? = some lo := by rw [List.getElem?_set, if_pos rfl, if_pos (by omega)]
      have hnew : valQ ((xs.set j lo).drop j) = a / 10000 ^ j / b := by rw [valQ_drop hset, List.drop_set_of_lt (by omega), hval, hstep1]
      (repeat' (first | (show TL _ _ _ _ (_ :: _) _ _ _; first | refine TL.sa ?_ | (refine TL.na ?_; intro _)) | (first | refine Stp.h ?_ | refine Post.then_normal ?_ | refine Post.next ?_ | refine Post.block_other rfl ?_) | refine Tri.ca ?_))
      refine TL.ents (Ents.clW (n := 1) (cap := 1) (cN .i64) [lo] rfl rfl rfl) ?_
      refine TL.ents Ents.freeze ?_
      refine TL.call rfl rfl rfl (productR_ok (xs := qud b) (ys := [lo]) hsb (fun y hy => by rw [List.mem_singleton.1 hy]; omega) (by simp [valQ]; omega) (by omega) (by simp)) ?_
      rintro _ _ ⟨pp, cp, rfl, rfl⟩
      rw [valQ_qud, show valQ [lo] = lo by simp [valQ]]
      (repeat' (first | (show TL _ _ _ _ (_ :: _) _ _ _; first | refine TL.sa ?_ | (refine TL.na ?_; intro _)) | (first | refine Stp.h ?_ | refine Post.then_normal ?_ | refine Post.next ?_ | refine Post.block_other rfl ?_) | refine Tri.ca ?_))
      refine TL.call rfl rfl rfl (differenceR_ok (a := W) (b := b * lo) hbq (by omega)) ?_
      rintro _ _ ⟨pr, cr, rfl, rfl⟩
      rw [hrest]
      (repeat' (first | (show TL _ _ _ _ (_ :: _) _ _ _; first | refine TL.sa ?_ | (refine TL.na ?_; intro _)) | (first | refine Stp.h ?_ | refine Post.then_normal ?_ | refine Post.next ?_ | refine Post.block_other rfl ?_) | refine Tri.ca ?_))
      exact Post.round (j, xs.set j lo, .slice pr (qud (a / 10000 ^ j % b)).length cr) ⟨by simp only; omega, by simpa using hxl, small_setQ hxs hQ9, hnew⟩ (by simp only; omega) (by (exact Sub.au)) (by (exact Ents.au))
    obtain ⟨k, rfl⟩ : ∃ k', k = k' + 1 := ⟨k - 1, by omega⟩
    rw [show ((k + 1 : Nat) : Int) - 1 = (k : Int) by omega]
    have hF8 := first_bound hW3 (show m ≤ k by omega)
    rw [← hF] at hF8
    obtain ⟨hfs, hfz⟩ := first_step hF
    (repeat' (first | (show TL _ _ _ _ (_ :: _) _ _ _; first | refine TL.sa ?_ | (refine TL.na ?_; intro _)) | (first | refine Stp.h ?_ | refine Post.then_normal ?_ | refine Post.next ?_ | refine Post.block_other rfl ?_) | refine Tri.ca ?_))
    by_cases hkl : k < (qud W).length
    · obtain ⟨g, hg⟩ : ∃ g, (qud W)[k]? = some g := ⟨_, List.getElem?_eq_getElem hkl⟩
      have hg9 := qud_small W g (List.mem_of_getElem? hg)
      (repeat' (first | (show TL _ _ _ _ (_ :: _) _ _ _; first | refine TL.sa ?_ | (refine TL.na ?_; intro _)) | (first | refine Stp.h ?_ | refine Post.then_normal ?_ | refine Post.next ?_ | refine Post.block_other rfl ?_) | refine Tri.ca ?_))
      rw [show (F : Int) * 10000 + (g : Int) = ((F * 10000 + g : Nat) : Int) by omega]
      exact Post.round (k, F * 10000 + g) ⟨by simp only; omega, by simp only; omega, hfs g hg⟩ (by simp only; omega) (by (exact Sub.au)) (by (exact Ents.au))
    · (repeat' (first | (show TL _ _ _ _ (_ :: _) _ _ _; first | refine TL.sa ?_ | (refine TL.na ?_; intro _)) | (first | refine Stp.h ?_ | refine Post.then_normal ?_ | refine Post.next ?_ | refine Post.block_other rfl ?_) | refine Tri.ca ?_))
      rw [show (F : Int) * 10000 = ((F * 10000 : Nat) : Int) by omega]
      exact Post.round (k, F * 10000) ⟨by simp only; omega, by simp only; omega, hfz (by omega)⟩ (by simp only; omega) (by (exact Sub.au)) (by (exact Ents.au))
end Go.Proofs.YtldljckhfcoafaaGreatDoor
