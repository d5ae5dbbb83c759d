/- Walks: the reference on whole numbers: products, powers. Walks: the reference on whole numbers: drafts. -/
import Derived.Test.YtldljckhfcoafaaGreatDoorVa1
import Derived.Test.YtldljckhfcoafaaGreatDoorPl
import Derived.Test.YtldljckhfcoafaaGreatDoorWb5
namespace Go.Sx
open Go
theorem mul_neg_bit {x y : Int} : decide (x * y < 0) = (!decide (decide (x < 0) = decide (y < 0)) && decide (x.natAbs * y.natAbs ≠ 0)) := by
  rw [Bool.eq_iff_iff, decide_eq_true_eq, ← Int.natAbs_mul]
  simp only [Bool.and_eq_true, Bool.not_eq_true', decide_eq_false_iff_not, decide_eq_true_eq]
  rcases Int.lt_trichotomy x 0 with h | h | h
  · rcases Int.lt_trichotomy y 0 with k | k | k
    · have := Int.mul_pos_of_neg_of_neg h k
      simp [h, k]; omega
    · subst k; simp
    · have := Int.mul_neg_of_neg_of_pos h k
      have hk : ¬ y < 0 := by omega
      simp [h, hk]; omega
  · subst h; simp
  · rcases Int.lt_trichotomy y 0 with k | k | k
    · have := Int.mul_neg_of_pos_of_neg h k
      have hk : ¬ x < 0 := by omega
      simp [k, hk]; omega
    · subst k; simp
    · have := Int.mul_pos h k
      have hk : ¬ x < 0 := by omega
      have hk' : ¬ y < 0 := by omega
      simp [hk, hk']; omega
theorem qud_len_pw (x k : Nat) : (qud (x ^ k)).length ≤ (qud x).length * k + 1 := by
  refine qud_len_lt ?_
  have h1 : x ^ k ≤ (10000 ^ (qud x).length) ^ k := Nat.pow_le_pow_left (Nat.le_of_lt (qud_lt_pow x)) k
  rw [← Nat.pow_mul] at h1
  rw [Nat.pow_succ]
  have h2 : 0 < 10000 ^ ((qud x).length * k) := Nat.pow_pos (by omega)
  omega
end Go.Sx
namespace Go.Proofs.YtldljckhfcoafaaGreatDoor
open Go Go.Sx
variable {w0 : World} {As : List Ent}
theorem productR_ok {v o : Value} {xs ys : List Nat} [hf : RdIn As v Nat (cN .i64) xs] [hg : RdIn As o Nat (cN .i64) ys] (hsa : ∀ x ∈ xs, x < 10000) (hsb : ∀ y ∈ ys, y ≤ 10000) (hY : valQ ys ≤ 10000 ^ ys.length) (ha : xs.length ≤ 100000000) (hb : ys.length ≤ 100000000) : CallsS Tryz.prog w0 160 [v, o] As (QudR As (valQ xs * valQ ys)) := by
  have hrl : (List.replicate (xs.length + ys.length) 0).length = xs.length + ys.length := List.length_replicate
  refine CallsS.of_tri Tryz.func160 rfl Tryz.ntmps160 rfl ?_
  (repeat' (first | (show TL _ _ _ _ (_ :: _) _ _ _; first | refine TL.sa ?_ | (refine TL.na ?_; intro _)) | (first | refine Stp.h ?_ | refine Post.then_normal ?_ | refine Post.next ?_ | refine Post.block_other rfl ?_) | refine Tri.ca ?_))
  rename_i sv
  refine Tri.loop (ι := Nat × List Nat) (fun s => s.1 ≤ xs.length ∧ s.2.length = xs.length + ys.length ∧ (∀ x ∈ s.2, x < 10000) ∧ valQ s.2 = valQ (xs.take s.1) * valQ ys) (fun s => xs.length - s.1)
    (fun s => [(0, v), (1, o), (5, sv), (6, .int .i64 (s.1 : Int))]) (fun s => .ow (cN .i64) 3 sv s.2 :: As)
    (0, List.replicate (xs.length + ys.length) 0) ⟨by omega, hrl, small_repQ _, by simp [valQ_replicate, valQ]⟩ (by (exact Sub.au)) (by (exact Ents.au)) ?_
  rintro ⟨i, zs⟩ ⟨hi, hxl, hxs, hval⟩
  simp only at hi hxl hxs hval
  show Tri _ _ _ _ [(0, v), (1, o), (5, sv), (6, .int .i64 (i : Int))] (.ow (cN .i64) 3 sv zs :: As) _
  (repeat' (first | (show TL _ _ _ _ (_ :: _) _ _ _; first | refine TL.sa ?_ | (refine TL.na ?_; intro _)) | (first | refine Stp.h ?_ | refine Post.then_normal ?_ | refine Post.next ?_ | refine Post.block_other rfl ?_) | refine Tri.ca ?_))
  ((show Tri _ _ _ (.cond _ _ _) _ _ _; first | refine Tri.condP rfl (fun hc => ?_) (fun hc => ?_) | refine Tri.condN rfl (fun hc => ?_) (fun hc => ?_)))
  · obtain ⟨d, hd⟩ : ∃ d, xs[i]? = some d := ⟨_, List.getElem?_eq_getElem (by omega)⟩
    have hd9 := hsa d (List.mem_of_getElem? hd)
    have hta := valQ_take hd
    have hap : ∀ k, k ≤ xs.length → valQ (xs.take k) * valQ ys < 10000 ^ (k + ys.length) := fun k hk => by
      have h1 := valQ_lt (xs := xs.take k) fun x hx => hsa x (List.mem_of_mem_take hx)
      rw [List.length_take, Nat.min_eq_left hk] at h1
      rw [Nat.pow_add]
      rcases Nat.eq_zero_or_pos (valQ ys) with h0 | h0
      · rw [h0, Nat.mul_zero]; exact Nat.mul_pos (Nat.pow_pos (by omega)) (Nat.pow_pos (by omega))
      · exact Nat.lt_of_lt_of_le (Nat.mul_lt_mul_of_pos_right h1 h0) (Nat.mul_le_mul_left _ hY)
    have hxz : zs[i + ys.length]? = some 0 := by
      obtain ⟨z, hz⟩ : ∃ z, zs[i + ys.length]? = some z := ⟨_, List.getElem?_eq_getElem (by omega)⟩
      rw [valQ_get_zero (n := i + ys.length) (by rw [hval]; exact hap i (by omega)) (Nat.le_refl _) hz] at hz
      exact hz
    (repeat' (first | (show TL _ _ _ _ (_ :: _) _ _ _; first | refine TL.sa ?_ | (refine TL.na ?_; intro _)) | (first | refine Stp.h ?_ | refine Post.then_normal ?_ | refine Post.next ?_ | refine Post.block_other rfl ?_) | refine Tri.ca ?_))
    refine Tri.loop (ι := Nat × List Nat × Nat) (fun s => s.1 ≤ ys.length ∧ s.2.1.length = xs.length + ys.length ∧ (∀ x ∈ s.2.1, x < 10000) ∧ s.2.2 ≤ 10000 ∧ s.2.1[i + ys.length]? = some 0 ∧ valQ s.2.1 + 10000 ^ (i + s.1) * s.2.2 = valQ (xs.take i) * valQ ys + 10000 ^ i * d * valQ (ys.take s.1)) (fun s => ys.length - s.1)
      (fun s => [(0, v), (1, o), (5, sv), (6, .int .i64 (i : Int)), (7, .int .i64 (s.2.2 : Int)), (8, .int .i64 (s.1 : Int))]) (fun s => .ow (cN .i64) 3 sv s.2.1 :: As)
      (0, zs, 0) ⟨by omega, hxl, hxs, by simp only; omega, hxz, by simp [valQ, hval]⟩ (by (exact Sub.au)) (by (exact Ents.au)) ?_
    rintro ⟨j, us, c⟩ ⟨hj, hyl, hys, hc9, hyz, hyv⟩
    simp only at hj hyl hys hc9 hyz hyv
    show Tri _ _ _ _ [(0, v), (1, o), (5, sv), (6, .int .i64 (i : Int)), (7, .int .i64 (c : Int)), (8, .int .i64 (j : Int))] (.ow (cN .i64) 3 sv us :: As) _
    (repeat' (first | (show TL _ _ _ _ (_ :: _) _ _ _; first | refine TL.sa ?_ | (refine TL.na ?_; intro _)) | (first | refine Stp.h ?_ | refine Post.then_normal ?_ | refine Post.next ?_ | refine Post.block_other rfl ?_) | refine Tri.ca ?_))
    ((show Tri _ _ _ (.cond _ _ _) _ _ _; first | refine Tri.condP rfl (fun hc => ?_) (fun hc => ?_) | refine Tri.condN rfl (fun hc => ?_) (fun hc => ?_)))
    · obtain ⟨ee, he⟩ : ∃ ee, ys[j]? = some ee := ⟨_, List.getElem?_eq_getElem (by omega)⟩
      have he9 := hsb ee (List.mem_of_getElem? he)
      have htb := valQ_take he
      obtain ⟨p, hp⟩ : ∃ p, us[i + j]? = some p := ⟨_, List.getElem?_eq_getElem (by omega)⟩
      have hp9 := hys p (List.mem_of_getElem? hp)
      have hlim : d * ee ≤ 9999 * 10000 := Nat.mul_le_mul (by omega) he9
      have hde : (d : Int) * (ee : Int) = ((d * ee : Nat) : Int) := (Int.natCast_mul d ee).symm
      (repeat' (first | (show TL _ _ _ _ (_ :: _) _ _ _; first | refine TL.sa ?_ | (refine TL.na ?_; intro _)) | (first | refine Stp.h ?_ | refine Post.then_normal ?_ | refine Post.next ?_ | refine Post.block_other rfl ?_) | refine Tri.ca ?_))
      refine Tri.dr (.take 0 (.take 1 (.take 2 (.take 3 (.take 4 (.take 5 (.take 6 (.take 7 (.take 8 (.take 9 (.take 10 (.take 11 (.take 12 (.take 13 (.take 14 (.take 15 (.take 16 (.take 17 (.take 18 (.done)))))))))))))))))))) ?_
      (repeat' (first | (show TL _ _ _ _ (_ :: _) _ _ _; first | refine TL.sa ?_ | (refine TL.na ?_; intro _)) | (first | refine Stp.h ?_ | refine Post.then_normal ?_ | refine Post.next ?_ | refine Post.block_other rfl ?_) | (show TT _ _ _ _ _ _ _ _ _; refine TT.sa ?_) | exact TTs.nil | refine TTs.cons ?_ ?_ | (show T1 _ _ _ _ _ _ _ _ _ _; first | refine T1.sa ?_ | (refine T1.na ?_; intro _)) | (show TC _ _ _ _ _ _ _ _ _ _; first | refine TC.goa ?_ | refine TC.fina ?_) | refine Tri.ca ?_))
      refine Post.round (j + 1, us.set (i + j) ((c + p + d * ee) % 10000), (c + p + d * ee) / 10000) ⟨by simp only; omega, by simpa using hyl, small_setQ hys (by omega), by simp only; omega, ?_, ?_⟩ (by simp only; omega) (by (exact Sub.au)) (Ents.refl _)
      · simp only
        rw [List.getElem?_set_ne (by omega)]
        exact hyz
      · simp only
        have h1 := times_stepQ (valQ_set (g := (c + p + d * ee) % 10000) hp) (rfl : c + p + d * ee = c + p + d * ee) hyv
        rw [show i + (j + 1) = (i + j) + 1 by omega, Nat.pow_succ, h1, htb, Nat.mul_add, Nat.pow_add, Nat.add_assoc]
        congr 2
        simp only [Nat.mul_assoc, Nat.mul_left_comm]
    · have hje : j = ys.length := by omega
      subst hje
      rw [valQ_take_ge (Nat.le_refl _)] at hyv
      have hc0 : c < 10000 := by
        have h1 := hap (i + 1) (by omega)
        rw [hta, Nat.add_mul, ← hyv, show i + 1 + ys.length = (i + ys.length) + 1 by omega, Nat.pow_succ] at h1
        exact Nat.lt_of_mul_lt_mul_left (a := 10000 ^ (i + ys.length)) (by omega)
      (repeat' (first | (show TL _ _ _ _ (_ :: _) _ _ _; first | refine TL.sa ?_ | (refine TL.na ?_; intro _)) | (first | refine Stp.h ?_ | refine Post.then_normal ?_ | refine Post.next ?_ | refine Post.block_other rfl ?_) | (show TT _ _ _ _ _ _ _ _ _; refine TT.sa ?_) | exact TTs.nil | refine TTs.cons ?_ ?_ | (show T1 _ _ _ _ _ _ _ _ _ _; first | refine T1.sa ?_ | (refine T1.na ?_; intro _)) | (show TC _ _ _ _ _ _ _ _ _ _; first | refine TC.goa ?_ | refine TC.fina ?_) | refine Tri.ca ?_))
      refine Post.round (i + 1, us.set (i + ys.length) c) ⟨by simp only; omega, by simpa using hyl, small_setQ hys hc0, ?_⟩ (by simp only; omega) (by (exact Sub.au)) (by (exact Ents.au))
      simp only
      have h1 := valQ_set (g := c) hyz
      rw [hta, Nat.add_mul]
      omega
  · have hie : i = xs.length := by omega
    rw [valQ_take_ge (by omega)] at hval
    (repeat' (first | (show TL _ _ _ _ (_ :: _) _ _ _; first | refine TL.sa ?_ | (refine TL.na ?_; intro _)) | (first | refine Stp.h ?_ | refine Post.then_normal ?_ | refine Post.next ?_ | refine Post.block_other rfl ?_) | refine Tri.ca ?_))
    refine TL.ents Ents.freeze ?_
    refine TL.call rfl rfl rfl (cut_ok hxs (by omega)) ?_
    rintro _ _ ⟨p, cap, rfl, rfl⟩
    rw [hval]
    (repeat' (first | (show TL _ _ _ _ (_ :: _) _ _ _; first | refine TL.sa ?_ | (refine TL.na ?_; intro _)) | (first | refine Stp.h ?_ | refine Post.then_normal ?_ | refine Post.next ?_ | refine Post.block_other rfl ?_) | refine Tri.ca ?_))
    (refine Post.ra ?_)
    exact ⟨_, ⟨p, cap, rfl, rfl⟩, by (exact Ents.au)⟩
theorem timesR_ok {v o : Value} {x y : Int} [hf : RdIn As v Nat (cN .i64) (qud x.natAbs)] [hg : RdIn As o Nat (cN .i64) (qud y.natAbs)] (ha : (qud x.natAbs).length ≤ 100000000) (hb : (qud y.natAbs).length ≤ 100000000) :
    CallsS Tryz.prog w0 116 [.agg #[.bool (decide (x < 0)), v], .agg #[.bool (decide (y < 0)), o]] As (PlainR As (x * y)) := by
  refine CallsS.rdSl v fun pv cv hv => CallsS.rdSl o fun po co ho => ?_
  subst hv ho
  have e1 : (x * y).natAbs = valQ (qud (x.natAbs * y.natAbs)) := by rw [valQ_qud]; exact Int.natAbs_mul x y
  have e2 : decide (x * y < 0) = (!decide (decide (x < 0) = decide (y < 0)) && decide (valQ (qud (x.natAbs * y.natAbs)) ≠ 0)) := by rw [valQ_qud]; exact mul_neg_bit
  have hml := qud_len_mul x.natAbs y.natAbs
  refine CallsS.of_tri Tryz.func116 rfl Tryz.ntmps116 rfl ?_
  (repeat' (first | (show TL _ _ _ _ (_ :: _) _ _ _; first | refine TL.sa ?_ | (refine TL.na ?_; intro _)) | (first | refine Stp.h ?_ | refine Post.then_normal ?_ | refine Post.next ?_ | refine Post.block_other rfl ?_) | refine Tri.ca ?_))
  refine Tri.dr (.take 0 (.take 1 (.take 2 (.take 3 (.take 4 (.take 5 (.take 6 (.take 7 (.take 8 (.all [(9, .all [(10, .all [(11, .done)])])])))))))))) ?_
  (repeat' (first | (show TL _ _ _ _ (_ :: _) _ _ _; first | refine TL.sa ?_ | (refine TL.na ?_; intro _)) | (first | refine Stp.h ?_ | refine Post.then_normal ?_ | refine Post.next ?_ | refine Post.block_other rfl ?_) | (show TT _ _ _ _ _ _ _ _ _; refine TT.sa ?_) | exact TTs.nil | refine TTs.cons ?_ ?_ | (show T1 _ _ _ _ _ _ _ _ _ _; first | refine T1.sa ?_ | (refine T1.na ?_; intro _)) | (show TC _ _ _ _ _ _ _ _ _ _; first | refine TC.goa ?_ | refine TC.fina ?_) | refine Tri.ca ?_))
  refine T1.call rfl rfl rfl rfl (productR_ok (qud_small _) (fun y hy => Nat.le_of_lt (qud_small _ y hy)) (by rw [valQ_qud]; exact Nat.le_of_lt (qud_lt_pow _)) ha hb) ?_
  rintro _ _ ⟨p, cap, rfl, rfl⟩
  rw [valQ_qud, valQ_qud]
  (repeat' (first | (show TL _ _ _ _ (_ :: _) _ _ _; first | refine TL.sa ?_ | (refine TL.na ?_; intro _)) | (first | refine Stp.h ?_ | refine Post.then_normal ?_ | refine Post.next ?_ | refine Post.block_other rfl ?_) | (show TT _ _ _ _ _ _ _ _ _; refine TT.sa ?_) | exact TTs.nil | refine TTs.cons ?_ ?_ | (show T1 _ _ _ _ _ _ _ _ _ _; first | refine T1.sa ?_ | (refine T1.na ?_; intro _)) | (show TC _ _ _ _ _ _ _ _ _ _; first | refine TC.goa ?_ | refine TC.fina ?_) | refine Tri.ca ?_))
  refine T1.call rfl rfl rfl rfl (made_ok (xs := qud (x.natAbs * y.natAbs)) (z := x * y) (qud_small _) (by omega) e1 e2) ?_
  rintro _ _ ⟨p', cap', rfl, rfl⟩
  (repeat' (first | (show TL _ _ _ _ (_ :: _) _ _ _; first | refine TL.sa ?_ | (refine TL.na ?_; intro _)) | (first | refine Stp.h ?_ | refine Post.then_normal ?_ | refine Post.next ?_ | refine Post.block_other rfl ?_) | (show TT _ _ _ _ _ _ _ _ _; refine TT.sa ?_) | exact TTs.nil | refine TTs.cons ?_ ?_ | (show T1 _ _ _ _ _ _ _ _ _ _; first | refine T1.sa ?_ | (refine T1.na ?_; intro _)) | (show TC _ _ _ _ _ _ _ _ _ _; first | refine TC.goa ?_ | refine TC.fina ?_) | refine Tri.ca ?_))
  (refine Post.ra ?_)
  exact ⟨_, ⟨p', cap', rfl, rfl⟩, by (exact Ents.au)⟩
theorem raisedR_ok {v : Value} {x : Int} {n : Nat} [hf : RdIn As v Nat (cN .i64) (qud x.natAbs)] (ha : (qud x.natAbs).length ≤ 1000000) (hL : (qud x.natAbs).length * n ≤ 1000000) (hn : n ≤ 1000000) :
    CallsS Tryz.prog w0 110 [.agg #[.bool (decide (x < 0)), v], .int .i64 (n : Int)] As (PlainR As (x ^ n)) := by
  refine CallsS.rdSl v fun pv cv hv => ?_
  subst hv
  refine CallsS.of_tri Tryz.func110 rfl Tryz.ntmps110 rfl ?_
  (repeat' (first | (show TL _ _ _ _ (_ :: _) _ _ _; first | refine TL.sa ?_ | (refine TL.na ?_; intro _)) | (first | refine Stp.h ?_ | refine Post.then_normal ?_ | refine Post.next ?_ | refine Post.block_other rfl ?_) | (show TT _ _ _ _ _ _ _ _ _; refine TT.sa ?_) | exact TTs.nil | refine TTs.cons ?_ ?_ | (show T1 _ _ _ _ _ _ _ _ _ _; first | refine T1.sa ?_ | (refine T1.na ?_; intro _)) | (show TC _ _ _ _ _ _ _ _ _ _; first | refine TC.goa ?_ | refine TC.fina ?_) | refine Tri.ca ?_))
  refine TL.call rfl rfl rfl (integerR_ok (n := 1) (by omega) (by omega)) ?_
  rintro _ _ ⟨p, cap, rfl, rfl⟩
  (repeat' (first | (show TL _ _ _ _ (_ :: _) _ _ _; first | refine TL.sa ?_ | (refine TL.na ?_; intro _)) | (first | refine Stp.h ?_ | refine Post.then_normal ?_ | refine Post.next ?_ | refine Post.block_other rfl ?_) | (show TT _ _ _ _ _ _ _ _ _; refine TT.sa ?_) | exact TTs.nil | refine TTs.cons ?_ ?_ | (show T1 _ _ _ _ _ _ _ _ _ _; first | refine T1.sa ?_ | (refine T1.na ?_; intro _)) | (show TC _ _ _ _ _ _ _ _ _ _; first | refine TC.goa ?_ | refine TC.fina ?_) | refine Tri.ca ?_))
  rename_i b2 b4 b5
  refine Tri.loop (ι := Nat × Option Addr × Nat) (fun s => s.1 ≤ n) (fun s => n - s.1)
    (fun s => [(1, .int .i64 (n : Int)), (2, .pointer (some ⟨b2, 0, none⟩)), (4, .pointer (some ⟨b4, 0, none⟩)), (5, .pointer (some ⟨b5, 0, none⟩)), (6, .int .i64 (s.1 : Int))])
    (fun s => .cl b5 [.bool (decide (x ^ s.1 < 0)), .slice s.2.1 (qud (x ^ s.1).natAbs).length s.2.2] 87 :: .ft (rd (cN .i64) (.slice s.2.1 (qud (x ^ s.1).natAbs).length s.2.2) (qud (x ^ s.1).natAbs)) :: .cl b4 [.bool false, .slice none 0 0] 87 :: .cl b2 [.bool (decide (x < 0)), .slice pv (qud x.natAbs).length cv] 87 :: As)
    (0, p, cap) (by omega) (by (exact Sub.au)) (by simp only [Int.pow_zero]; (exact Ents.au)) ?_
  rintro ⟨k, pk, ck⟩ hk
  simp only at hk
  show Tri _ _ _ _ [(1, _), (2, _), (4, _), (5, _), (6, .int .i64 (k : Int))] (.cl b5 [.bool (decide (x ^ k < 0)), .slice pk (qud (x ^ k).natAbs).length ck] _ :: .ft (rd (cN .i64) (.slice pk (qud (x ^ k).natAbs).length ck) (qud (x ^ k).natAbs)) :: _) _
  have hpl : (qud (x ^ k).natAbs).length ≤ 1000001 := by
    have h1 := qud_len_pw x.natAbs k
    have h2 := Nat.mul_le_mul_left (qud x.natAbs).length hk
    rw [Int.natAbs_pow]
    omega
  (repeat' (first | (show TL _ _ _ _ (_ :: _) _ _ _; first | refine TL.sa ?_ | (refine TL.na ?_; intro _)) | (first | refine Stp.h ?_ | refine Post.then_normal ?_ | refine Post.next ?_ | refine Post.block_other rfl ?_) | refine Tri.ca ?_))
  ((show Tri _ _ _ (.cond _ _ _) _ _ _; first | refine Tri.condP rfl (fun hc => ?_) (fun hc => ?_) | refine Tri.condN rfl (fun hc => ?_) (fun hc => ?_)))
  · (repeat' (first | (show TL _ _ _ _ (_ :: _) _ _ _; first | refine TL.sa ?_ | (refine TL.na ?_; intro _)) | (first | refine Stp.h ?_ | refine Post.then_normal ?_ | refine Post.next ?_ | refine Post.block_other rfl ?_) | refine Tri.ca ?_))
    refine TL.call rfl rfl rfl (timesR_ok (x := x ^ k) (y := x) (by omega) (by omega)) ?_
    rintro _ _ ⟨p', cap', rfl, rfl⟩
    rw [← Int.pow_succ]
    (repeat' (first | (show TL _ _ _ _ (_ :: _) _ _ _; first | refine TL.sa ?_ | (refine TL.na ?_; intro _)) | (first | refine Stp.h ?_ | refine Post.then_normal ?_ | refine Post.next ?_ | refine Post.block_other rfl ?_) | refine Tri.ca ?_))
    exact Post.round (k + 1, p', cap') (by simp only; omega) (by simp only; omega) (by (exact Sub.au)) (by (exact Ents.au))
  · have hkn : k = n := by omega
    subst hkn
    (repeat' (first | (show TL _ _ _ _ (_ :: _) _ _ _; first | refine TL.sa ?_ | (refine TL.na ?_; intro _)) | (first | refine Stp.h ?_ | refine Post.then_normal ?_ | refine Post.next ?_ | refine Post.block_other rfl ?_) | refine Tri.ca ?_))
    (refine Post.ra ?_)
    exact ⟨_, ⟨pk, ck, rfl, rfl⟩, by (exact Ents.au)⟩
end Go.Proofs.YtldljckhfcoafaaGreatDoor
namespace Go.Sx
open Go
/-- a draft of a number: below, groups (of at most three digits, read modulo 1000), zeros -/
structure D01 where
  below : Bool
  gv : Value
  gs : List Nat
  zeros : Nat
def groupsD (gs : List Nat) : Nat := gs.foldl (fun n g => n * 1000 + g % 1000) 0
def D01.size (d : D01) : Nat := groupsD (d.gs.take 12) * 10 ^ (d.zeros % 501)
def D01.num (d : D01) : Int := if d.below then -(d.size : Int) else (d.size : Int)
def D01.cells (d : D01) : List Value := [.bool d.below, d.gv, .int .u16 (d.zeros : Int)]
def D01.ok (d : D01) : Prop := (∀ g ∈ d.gs, g ≤ 65535) ∧ d.gs.length ≤ 9223372036854775807 ∧ d.zeros ≤ 65535
theorem groupsD_snoc {gs : List Nat} {g : Nat} : groupsD (gs ++ [g]) = groupsD gs * 1000 + g % 1000 := by simp [groupsD]
theorem groupsD_lt (gs : List Nat) : ∀ k, groupsD (gs.take k) < 1000 ^ k
  | 0 => by simp [groupsD]
  | k + 1 => by
    have ih := groupsD_lt gs k
    rw [List.take_add_one]
    cases h : gs[k]? with
    | none =>
      simp only [Option.toList_none, List.append_nil]
      rw [Nat.pow_succ]; omega
    | some g =>
      simp only [Option.toList_some]
      rw [groupsD_snoc, Nat.pow_succ]; omega
theorem mul_ten_lt {a e i j : Nat} (h1 : a < 10 ^ i) (h2 : e ≤ j) : a * 10 ^ e < 10 ^ (i + j) := by
  rw [Nat.pow_add]
  exact Nat.lt_of_lt_of_le (Nat.mul_lt_mul_of_pos_right h1 (Nat.pow_pos (by omega))) (Nat.mul_le_mul_left _ (Nat.pow_le_pow_right (by omega) h2))
theorem qud_len_ten {n j k : Nat} (h : n < 10 ^ j) (hj : j ≤ 4 * k) : (qud n).length ≤ k := by
  refine qud_len_lt (Nat.lt_of_lt_of_le h ?_)
  rw [show (10000 : Nat) = 10 ^ 4 from rfl, ← Nat.pow_mul]
  exact Nat.pow_le_pow_right (by omega) hj
theorem D01.size_lt (d : D01) : ∃ k, k ≤ 540 ∧ d.size < 10 ^ k := by
  have h1 := groupsD_lt d.gs 12
  have h3 : (1000 : Nat) ^ 12 = 10 ^ 36 := by rw [show (1000 : Nat) = 10 ^ 3 from rfl, ← Nat.pow_mul]
  rw [h3] at h1
  exact ⟨36 + d.zeros % 501, by omega, mul_ten_lt h1 (Nat.le_refl _)⟩
theorem D01.natAbs (d : D01) : d.num.natAbs = d.size := by unfold D01.num; split <;> simp
theorem D01.digits (d : D01) : Lib.nDigits d.num.natAbs ≤ 600 := by
  rw [d.natAbs]
  obtain ⟨k, hk, hl⟩ := d.size_lt
  rcases Nat.eq_zero_or_pos k with h0 | h0
  · subst h0
    rw [show d.size = 0 by simpa using hl, Lib.nDigits_small (by decide)]; omega
  · exact Nat.le_trans (nDigits_lt h0 hl) (by omega)
end Go.Sx
namespace Go.Proofs.YtldljckhfcoafaaGreatDoor
open Go Go.Sx
variable {w0 : World} {As : List Ent}
instance : ElC Tryz.prog 26 Nat (cN .u16) 0 2 := ⟨by obtain ⟨i, h1, h2, h3, h4⟩ := (inferInstance : TI Tryz.prog 26 _ _ _).info; exact ⟨i, _, h1, h2, h3, h4, rfl⟩, by decide⟩
theorem qud_len_num {n k : Nat} (h : n < 1000 ^ k) : (qud n).length ≤ k := by
  refine qud_len_lt (Nat.lt_of_lt_of_le h (Nat.pow_le_pow_left (by omega) k))
theorem wholeR_ok (d : D01) [hr : RdIn As d.gv Nat (cN .u16) d.gs] (hd : d.ok) :
    CallsS Tryz.prog w0 67 [.agg d.cells.toArray] As fun u Bs => u = .string ⟨(textI d.num).toArray⟩ ∧ Bs = As := by
  obtain ⟨below, gv, gs, zeros⟩ := d
  obtain ⟨hg, hgl, hz⟩ := hd
  simp only at hg hgl hz
  replace hr : RdIn As gv Nat (cN .u16) gs := hr
  have hdg := D01.digits ⟨below, gv, gs, zeros⟩
  have hna := D01.natAbs ⟨below, gv, gs, zeros⟩
  refine CallsS.rdSl gv fun pg cg hgv => ?_
  subst hgv
  refine CallsS.of_tri Tryz.func67 rfl Tryz.ntmps67 rfl ?_
  show Tri _ _ _ _ (env0 0 [.agg #[.bool below, .slice pg gs.length cg, .int .u16 (zeros : Int)]]) _ _
  (repeat' (first | (show TL _ _ _ _ (_ :: _) _ _ _; first | refine TL.sa ?_ | (refine TL.na ?_; intro _)) | (first | refine Stp.h ?_ | refine Post.then_normal ?_ | refine Post.next ?_ | refine Post.block_other rfl ?_) | refine Tri.ca ?_))
  refine TL.call rfl rfl rfl (integerR_ok (n := 0) (by omega) (by omega)) ?_
  rintro _ _ ⟨p, cap, rfl, rfl⟩
  (repeat' (first | (show TL _ _ _ _ (_ :: _) _ _ _; first | refine TL.sa ?_ | (refine TL.na ?_; intro _)) | (first | refine Stp.h ?_ | refine Post.then_normal ?_ | refine Post.next ?_ | refine Post.block_other rfl ?_) | refine Tri.ca ?_))
  rename_i b1 b3
  refine Tri.loop (ι := Nat × Option Addr × Nat) (fun s => s.1 ≤ min gs.length 12) (fun s => min gs.length 12 - s.1)
    (fun s => [(1, .pointer (some ⟨b1, 0, none⟩)), (3, .pointer (some ⟨b3, 0, none⟩)), (4, .int .i64 (s.1 : Int))])
    (fun s => .cl b3 [.bool (decide (((groupsD (gs.take s.1) : Nat) : Int) < 0)), .slice s.2.1 (qud ((groupsD (gs.take s.1) : Nat) : Int).natAbs).length s.2.2] 87 :: .ft (rd (cN .i64) (.slice s.2.1 (qud ((groupsD (gs.take s.1) : Nat) : Int).natAbs).length s.2.2) (qud ((groupsD (gs.take s.1) : Nat) : Int).natAbs)) :: .cl b1 [.bool below, .slice pg gs.length cg, .int .u16 (zeros : Int)] 28 :: As)
    (0, p, cap) (by omega) (by (exact Sub.au)) (by show Ents _ (.cl b3 [.bool (decide ((0 : Int) < 0)), .slice p (qud (0 : Int).natAbs).length cap] _ :: .ft (rd (cN .i64) (.slice p (qud (0 : Int).natAbs).length cap) (qud (0 : Int).natAbs)) :: _); (exact Ents.au)) ?_
  rintro ⟨k, pk, ck⟩ hk
  simp only at hk
  have hlt := groupsD_lt gs k
  obtain ⟨m, hm⟩ : ∃ m : Nat, m = groupsD (gs.take k) := ⟨_, rfl⟩
  rw [← hm] at hlt
  have hml := qud_len_num hlt
  show Tri _ _ _ _ [(1, _), (3, _), (4, .int .i64 (k : Int))] (.cl b3 [.bool (decide (((groupsD (gs.take k) : Nat) : Int) < 0)), .slice pk (qud ((groupsD (gs.take k) : Nat) : Int).natAbs).length ck] _ :: .ft (rd (cN .i64) (.slice pk (qud ((groupsD (gs.take k) : Nat) : Int).natAbs).length ck) (qud ((groupsD (gs.take k) : Nat) : Int).natAbs)) :: _) _
  rw [← hm]
  (repeat' (first | (show TL _ _ _ _ (_ :: _) _ _ _; first | refine TL.sa ?_ | (refine TL.na ?_; intro _)) | (first | refine Stp.h ?_ | refine Post.then_normal ?_ | refine Post.next ?_ | refine Post.block_other rfl ?_) | refine Tri.ca ?_))
  by_cases hgo : k < gs.length ∧ k < 12
  · obtain ⟨hgo1, hgo2⟩ := hgo
    obtain ⟨g, hgk⟩ : ∃ g, gs[k]? = some g := ⟨_, List.getElem?_eq_getElem hgo1⟩
    have hg9 := hg g (List.mem_of_getElem? hgk)
    have hnew : groupsD (gs.take (k + 1)) = m * 1000 + g % 1000 := by rw [List.take_add_one, hgk, Option.toList_some, groupsD_snoc, hm]
    have hz9 : (((m : Nat) : Int) * 1000 + (g : Int) % 1000) = ((groupsD (gs.take (k + 1)) : Nat) : Int) := by rw [hnew]; omega
    have hl1 : (qud (1000 : Int).natAbs).length ≤ 1 := qud_len_lt (by decide)
    have hl2 : (qud ((g : Int) % 1000).natAbs).length ≤ 1 := qud_len_lt (by omega)
    have hl3 : (qud ((m : Int) * 1000).natAbs).length ≤ 20 := by
      have := qud_len_mul m 1000
      have h4 : (qud 1000).length ≤ 1 := qud_len_lt (by decide)
      rw [show ((m : Int) * 1000).natAbs = m * 1000 by omega]
      omega
    (repeat' (first | (show TL _ _ _ _ (_ :: _) _ _ _; first | refine TL.sa ?_ | (refine TL.na ?_; intro _)) | (first | refine Stp.h ?_ | refine Post.then_normal ?_ | refine Post.next ?_ | refine Post.block_other rfl ?_) | refine Tri.ca ?_))
    refine Tri.dr (.take 0 (.take 3 (.take 4 (.take 5 (.take 6 (.take 7 (.take 8 (.take 9 (.all [(1, .all [(2, .all [(10, .all [(11, .all [(12, .done)])])])])]))))))))) ?_
    (repeat' (first | (show TL _ _ _ _ (_ :: _) _ _ _; first | refine TL.sa ?_ | (refine TL.na ?_; intro _)) | (first | refine Stp.h ?_ | refine Post.then_normal ?_ | refine Post.next ?_ | refine Post.block_other rfl ?_) | (show TT _ _ _ _ _ _ _ _ _; refine TT.sa ?_) | exact TTs.nil | refine TTs.cons ?_ ?_ | (show T1 _ _ _ _ _ _ _ _ _ _; first | refine T1.sa ?_ | (refine T1.na ?_; intro _)) | (show TC _ _ _ _ _ _ _ _ _ _; first | refine TC.goa ?_ | refine TC.fina ?_) | refine Tri.ca ?_))
    refine T1.call rfl rfl rfl rfl (integerR_ok (n := 1000) (by omega) (by omega)) ?_
    rintro _ _ ⟨p1, cap1, rfl, rfl⟩
    (repeat' (first | (show TL _ _ _ _ (_ :: _) _ _ _; first | refine TL.sa ?_ | (refine TL.na ?_; intro _)) | (first | refine Stp.h ?_ | refine Post.then_normal ?_ | refine Post.next ?_ | refine Post.block_other rfl ?_) | (show TT _ _ _ _ _ _ _ _ _; refine TT.sa ?_) | exact TTs.nil | refine TTs.cons ?_ ?_ | (show T1 _ _ _ _ _ _ _ _ _ _; first | refine T1.sa ?_ | (refine T1.na ?_; intro _)) | (show TC _ _ _ _ _ _ _ _ _ _; first | refine TC.goa ?_ | refine TC.fina ?_) | refine Tri.ca ?_))
    refine T1.call rfl rfl rfl rfl (timesR_ok (x := (m : Int)) (y := 1000) (by simp only [Int.natAbs_natCast]; omega) (by omega)) ?_
    rintro _ _ ⟨p2, cap2, rfl, rfl⟩
    (repeat' (first | (show TL _ _ _ _ (_ :: _) _ _ _; first | refine TL.sa ?_ | (refine TL.na ?_; intro _)) | (first | refine Stp.h ?_ | refine Post.then_normal ?_ | refine Post.next ?_ | refine Post.block_other rfl ?_) | (show TT _ _ _ _ _ _ _ _ _; refine TT.sa ?_) | exact TTs.nil | refine TTs.cons ?_ ?_ | (show T1 _ _ _ _ _ _ _ _ _ _; first | refine T1.sa ?_ | (refine T1.na ?_; intro _)) | (show TC _ _ _ _ _ _ _ _ _ _; first | refine TC.goa ?_ | refine TC.fina ?_) | refine Tri.ca ?_))
    refine T1.call rfl rfl rfl rfl (integerR_ok (n := (g : Int) % 1000) (by omega) (by omega)) ?_
    rintro _ _ ⟨p3, cap3, rfl, rfl⟩
    (repeat' (first | (show TL _ _ _ _ (_ :: _) _ _ _; first | refine TL.sa ?_ | (refine TL.na ?_; intro _)) | (first | refine Stp.h ?_ | refine Post.then_normal ?_ | refine Post.next ?_ | refine Post.block_other rfl ?_) | (show TT _ _ _ _ _ _ _ _ _; refine TT.sa ?_) | exact TTs.nil | refine TTs.cons ?_ ?_ | (show T1 _ _ _ _ _ _ _ _ _ _; first | refine T1.sa ?_ | (refine T1.na ?_; intro _)) | (show TC _ _ _ _ _ _ _ _ _ _; first | refine TC.goa ?_ | refine TC.fina ?_) | refine Tri.ca ?_))
    refine T1.call rfl rfl rfl rfl (plusR_ok (x := (m : Int) * 1000) (y := (g : Int) % 1000) (by omega) (by omega)) ?_
    rintro _ _ ⟨p4, cap4, rfl, rfl⟩
    rw [hz9]
    (repeat' (first | (show TL _ _ _ _ (_ :: _) _ _ _; first | refine TL.sa ?_ | (refine TL.na ?_; intro _)) | (first | refine Stp.h ?_ | refine Post.then_normal ?_ | refine Post.next ?_ | refine Post.block_other rfl ?_) | (show TT _ _ _ _ _ _ _ _ _; refine TT.sa ?_) | exact TTs.nil | refine TTs.cons ?_ ?_ | (show T1 _ _ _ _ _ _ _ _ _ _; first | refine T1.sa ?_ | (refine T1.na ?_; intro _)) | (show TC _ _ _ _ _ _ _ _ _ _; first | refine TC.goa ?_ | refine TC.fina ?_) | refine Tri.ca ?_))
    exact Post.round (k + 1, p4, cap4) (by simp only; omega) (by simp only; omega) (by (exact Sub.au)) (by (exact Ents.au))
  · have hk' : gs.take k = gs.take 12 := by
      rcases Nat.lt_or_ge k gs.length with h | h
      · rw [show k = 12 by omega]
      · rw [List.take_of_length_le h, List.take_of_length_le (by omega)]
    have hmt : m = groupsD (gs.take 12) := by rw [hm, hk']
    have hL : (qud (10 : Int).natAbs).length ≤ 1 := qud_len_lt (by decide)
    have hpl : (qud ((10 : Int) ^ (zeros % 501)).natAbs).length ≤ 502 := by
      have h1 := qud_len_pw 10 (zeros % 501)
      have h2 : (qud 10).length ≤ 1 := qud_len_lt (by decide)
      have h3 := Nat.mul_le_mul_right (zeros % 501) h2
      rw [Int.natAbs_pow]
      show (qud (10 ^ (zeros % 501))).length ≤ 502
      omega
    have hzs : (zeros : Int) % 501 = ((zeros % 501 : Nat) : Int) := by omega
    have hsz : ((m : Nat) : Int) * (10 : Int) ^ (zeros % 501) = (((⟨below, .slice pg gs.length cg, gs, zeros⟩ : D01).size : Nat) : Int) := by
      rw [hmt]; unfold D01.size; simp [Int.natCast_pow]
    have hml3 : (qud (⟨below, .slice pg gs.length cg, gs, zeros⟩ : D01).size).length ≤ 600 := by
      obtain ⟨k', hk', hl'⟩ := D01.size_lt ⟨below, .slice pg gs.length cg, gs, zeros⟩
      exact qud_len_ten hl' (by omega)
    have hLm : (qud (10 : Int).natAbs).length * (zeros % 501) ≤ 1 * 501 := Nat.mul_le_mul hL (by omega)
    have e1 : (⟨below, .slice pg gs.length cg, gs, zeros⟩ : D01).num.natAbs = valQ (qud (⟨below, .slice pg gs.length cg, gs, zeros⟩ : D01).size) := by rw [valQ_qud]; exact D01.natAbs _
    have e2 : decide ((⟨below, .slice pg gs.length cg, gs, zeros⟩ : D01).num < 0) = (below && decide (valQ (qud (⟨below, .slice pg gs.length cg, gs, zeros⟩ : D01).size) ≠ 0)) := by
      rw [valQ_qud]
      unfold D01.num
      cases below
      · simp
      · rw [Bool.eq_iff_iff]
        simp only [if_true, Bool.true_and, decide_eq_true_eq]
        omega
    rw [hna] at hdg
    generalize hSZ : (⟨below, .slice pg gs.length cg, gs, zeros⟩ : D01).size = SZ at hsz hml3 e1 e2 hdg hna
    rcases (by omega : ¬ k < gs.length ∨ (k < gs.length ∧ ¬ k < 12)) with h8 | ⟨h8, h9⟩
    all_goals
      (repeat' (first | (show TL _ _ _ _ (_ :: _) _ _ _; first | refine TL.sa ?_ | (refine TL.na ?_; intro _)) | (first | refine Stp.h ?_ | refine Post.then_normal ?_ | refine Post.next ?_ | refine Post.block_other rfl ?_) | (show TT _ _ _ _ _ _ _ _ _; refine TT.sa ?_) | exact TTs.nil | refine TTs.cons ?_ ?_ | (show T1 _ _ _ _ _ _ _ _ _ _; first | refine T1.sa ?_ | (refine T1.na ?_; intro _)) | (show TC _ _ _ _ _ _ _ _ _ _; first | refine TC.goa ?_ | refine TC.fina ?_) | refine Tri.ca ?_))
      refine Tri.dr (.take 0 (.take 2 (.take 3 (.take 4 (.take 5 (.all [(1, .all [(6, .all [(7, .all [(8, .done)])])])])))))) ?_
      (repeat' (first | (show TL _ _ _ _ (_ :: _) _ _ _; first | refine TL.sa ?_ | (refine TL.na ?_; intro _)) | (first | refine Stp.h ?_ | refine Post.then_normal ?_ | refine Post.next ?_ | refine Post.block_other rfl ?_) | (show TT _ _ _ _ _ _ _ _ _; refine TT.sa ?_) | exact TTs.nil | refine TTs.cons ?_ ?_ | (show T1 _ _ _ _ _ _ _ _ _ _; first | refine T1.sa ?_ | (refine T1.na ?_; intro _)) | (show TC _ _ _ _ _ _ _ _ _ _; first | refine TC.goa ?_ | refine TC.fina ?_) | refine Tri.ca ?_))
      refine T1.call rfl rfl rfl rfl (integerR_ok (n := 10) (by omega) (by omega)) ?_
      rintro _ _ ⟨p1, cap1, rfl, rfl⟩
      rw [hzs]
      (repeat' (first | (show TL _ _ _ _ (_ :: _) _ _ _; first | refine TL.sa ?_ | (refine TL.na ?_; intro _)) | (first | refine Stp.h ?_ | refine Post.then_normal ?_ | refine Post.next ?_ | refine Post.block_other rfl ?_) | (show TT _ _ _ _ _ _ _ _ _; refine TT.sa ?_) | exact TTs.nil | refine TTs.cons ?_ ?_ | (show T1 _ _ _ _ _ _ _ _ _ _; first | refine T1.sa ?_ | (refine T1.na ?_; intro _)) | (show TC _ _ _ _ _ _ _ _ _ _; first | refine TC.goa ?_ | refine TC.fina ?_) | refine Tri.ca ?_))
      refine T1.call rfl rfl rfl rfl (raisedR_ok (x := 10) (n := zeros % 501) (by omega) (by omega) (by omega)) ?_
      rintro _ _ ⟨p2, cap2, rfl, rfl⟩
      (repeat' (first | (show TL _ _ _ _ (_ :: _) _ _ _; first | refine TL.sa ?_ | (refine TL.na ?_; intro _)) | (first | refine Stp.h ?_ | refine Post.then_normal ?_ | refine Post.next ?_ | refine Post.block_other rfl ?_) | (show TT _ _ _ _ _ _ _ _ _; refine TT.sa ?_) | exact TTs.nil | refine TTs.cons ?_ ?_ | (show T1 _ _ _ _ _ _ _ _ _ _; first | refine T1.sa ?_ | (refine T1.na ?_; intro _)) | (show TC _ _ _ _ _ _ _ _ _ _; first | refine TC.goa ?_ | refine TC.fina ?_) | refine Tri.ca ?_))
      refine T1.call rfl rfl rfl rfl (timesR_ok (x := (m : Int)) (y := (10 : Int) ^ (zeros % 501)) (by simp only [Int.natAbs_natCast]; omega) (by omega)) ?_
      rintro _ _ ⟨p3, cap3, rfl, rfl⟩
      rw [hsz]
      (repeat' (first | (show TL _ _ _ _ (_ :: _) _ _ _; first | refine TL.sa ?_ | (refine TL.na ?_; intro _)) | (first | refine Stp.h ?_ | refine Post.then_normal ?_ | refine Post.next ?_ | refine Post.block_other rfl ?_) | (show TT _ _ _ _ _ _ _ _ _; refine TT.sa ?_) | exact TTs.nil | refine TTs.cons ?_ ?_ | (show T1 _ _ _ _ _ _ _ _ _ _; first | refine T1.sa ?_ | (refine T1.na ?_; intro _)) | (show TC _ _ _ _ _ _ _ _ _ _; first | refine TC.goa ?_ | refine TC.fina ?_) | refine Tri.ca ?_))
      refine TL.call rfl rfl rfl (made_ok (xs := qud SZ) (z := (⟨below, .slice pg gs.length cg, gs, zeros⟩ : D01).num) (qud_small _) (by omega) e1 e2) ?_
      rintro _ _ ⟨p4, cap4, rfl, rfl⟩
      generalize hNUM : (⟨below, .slice pg gs.length cg, gs, zeros⟩ : D01).num = NUM at hdg hna e1 e2 ⊢
      (repeat' (first | (show TL _ _ _ _ (_ :: _) _ _ _; first | refine TL.sa ?_ | (refine TL.na ?_; intro _)) | (first | refine Stp.h ?_ | refine Post.then_normal ?_ | refine Post.next ?_ | refine Post.block_other rfl ?_) | (show TT _ _ _ _ _ _ _ _ _; refine TT.sa ?_) | exact TTs.nil | refine TTs.cons ?_ ?_ | (show T1 _ _ _ _ _ _ _ _ _ _; first | refine T1.sa ?_ | (refine T1.na ?_; intro _)) | (show TC _ _ _ _ _ _ _ _ _ _; first | refine TC.goa ?_ | refine TC.fina ?_) | refine Tri.ca ?_))
      refine TL.call rfl rfl rfl (outR_ok (z := NUM) (by rw [hna]; omega)) ?_
      rintro _ _ ⟨rfl, rfl⟩
      rw [outW_ok (by rw [hna]; exact hdg)]
      (repeat' (first | (show TL _ _ _ _ (_ :: _) _ _ _; first | refine TL.sa ?_ | (refine TL.na ?_; intro _)) | (first | refine Stp.h ?_ | refine Post.then_normal ?_ | refine Post.next ?_ | refine Post.block_other rfl ?_) | (show TT _ _ _ _ _ _ _ _ _; refine TT.sa ?_) | exact TTs.nil | refine TTs.cons ?_ ?_ | (show T1 _ _ _ _ _ _ _ _ _ _; first | refine T1.sa ?_ | (refine T1.na ?_; intro _)) | (show TC _ _ _ _ _ _ _ _ _ _; first | refine TC.goa ?_ | refine TC.fina ?_) | refine Tri.ca ?_))
      (refine Post.ra ?_)
      exact ⟨_, ⟨rfl, rfl⟩, by (exact Ents.au)⟩
end Go.Proofs.YtldljckhfcoafaaGreatDoor
