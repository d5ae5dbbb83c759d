/- Walks: the reference on whole numbers: products, powers. -/
import Derived.Test.YtfbhlfhecmhihaaGreatDoorVa4
import Derived.Test.YtfbhlfhecmhihaaGreatDoorPl
import Derived.Test.YtfbhlfhecmhihaaGreatDoorWb8
namespace Go.Sx
open Go
theorem mul_neg_bit {x y : Int} : decide (x * y < 0) = (!decide (decide (x < 0) = decide (y < 0)) && decide (x.natAbs * y.natAbs ≠ 0)) := by
  rw [Bool.eq_iff_iff, decide_eq_true_eq, ← Int.natAbs_mul]
  simp only [Bool.and_eq_true, Bool.not_eq_true', decide_eq_false_iff_not, decide_eq_true_eq]
  rcases Int.lt_trichotomy x 0 with h | h | h
  · rcases Int.lt_trichotomy y 0 with k | k | k
    · have := Int.mul_pos_of_neg_of_neg h k
      simp [h, k]; omega
    · subst k; simp
    · have := Int.mul_neg_of_neg_of_pos h k
      have hk : ¬ y < 0 := by omega
      simp [h, hk]; omega
  · subst h; simp
  · rcases Int.lt_trichotomy y 0 with k | k | k
    · have := Int.mul_neg_of_pos_of_neg h k
      have hk : ¬ x < 0 := by omega
      simp [k, hk]; omega
    · subst k; simp
    · have := Int.mul_pos h k
      have hk : ¬ x < 0 := by omega
      have hk' : ¬ y < 0 := by omega
      simp [hk, hk']; omega
theorem qud_len_pw (x k : Nat) : (qud (x ^ k)).length ≤ (qud x).length * k + 1 := by
  refine qud_len_lt ?_
  have h1 : x ^ k ≤ (10000 ^ (qud x).length) ^ k := Nat.pow_le_pow_left (Nat.le_of_lt (qud_lt_pow x)) k
  rw [← Nat.pow_mul] at h1
  rw [Nat.pow_succ]
  have h2 : 0 < 10000 ^ ((qud x).length * k) := Nat.pow_pos (by omega)
  omega
end Go.Sx
namespace Go.Proofs.YtfbhlfhecmhihaaGreatDoor
open Go Go.Sx
variable {w0 : World} {As : List Ent}
theorem productR_ok {v o : Value} {xs ys : List Nat} [hf : RdIn As v Nat (cN .i64) xs] [hg : RdIn As o Nat (cN .i64) ys] (hsa : ∀ x ∈ xs, x < 10000) (hsb : ∀ y ∈ ys, y ≤ 10000) (hY : valQ ys ≤ 10000 ^ ys.length) (ha : xs.length ≤ 100000000) (hb : ys.length ≤ 100000000) : CallsS Tryz.prog w0 106 [v, o] As (QudR As (valQ xs * valQ ys)) := by
  have hrl : (List.replicate (xs.length + ys.length) 0).length = xs.length + ys.length := List.length_replicate
  refine CallsS.of_tri Tryz.func106 rfl Tryz.ntmps106 rfl ?_
  (repeat' (first | ((show TL _ _ _ _ (_ :: _) _ _ _; first | refine TL.fa ?_ | refine TL.ua ?_ | (refine TL.rba ?_; intro _) | (refine TL.rra ?_; first | rintro _ _ ⟨rfl, rfl⟩ | rintro _ _ rfl) | refine TL.offa ?_ | refine TL.off0a ?_ | refine TL.gu ?_ | fail)) | (first | refine Stp.h ?_ | refine Post.then_normal ?_ | refine Post.next ?_ | refine Post.block_other rfl ?_) | ((show Tri _ _ _ (.cond _ _ _) _ _ _; first | refine Tri.cTa ?_ | refine Tri.cFa ?_ | refine Tri.condTa ?_ | refine Tri.condFa ?_ | refine Tri.condNTa ?_ | refine Tri.condNFa ?_ | fail))))
  rename_i sv
  refine Tri.loop (ι := Nat × List Nat) (fun s => s.1 ≤ xs.length ∧ s.2.length = xs.length + ys.length ∧ (∀ x ∈ s.2, x < 10000) ∧ valQ s.2 = valQ (xs.take s.1) * valQ ys) (fun s => xs.length - s.1)
    (fun s => [(0, v), (1, o), (5, sv), (6, .int .i64 (s.1 : Int))]) (fun s => .ow (cN .i64) 3 sv s.2 :: As)
    (0, List.replicate (xs.length + ys.length) 0) ⟨by omega, hrl, small_repQ _, by simp [valQ_replicate, valQ]⟩ (by (exact Sub.au)) (by (exact Ents.au)) ?_
  rintro ⟨i, zs⟩ ⟨hi, hxl, hxs, hval⟩
  simp only at hi hxl hxs hval
  show Tri _ _ _ _ [(0, v), (1, o), (5, sv), (6, .int .i64 (i : Int))] (.ow (cN .i64) 3 sv zs :: As) _
  (repeat' (first | ((show TL _ _ _ _ (_ :: _) _ _ _; first | refine TL.fa ?_ | refine TL.ua ?_ | (refine TL.rba ?_; intro _) | (refine TL.rra ?_; first | rintro _ _ ⟨rfl, rfl⟩ | rintro _ _ rfl) | refine TL.offa ?_ | refine TL.off0a ?_ | refine TL.gu ?_ | fail)) | (first | refine Stp.h ?_ | refine Post.then_normal ?_ | refine Post.next ?_ | refine Post.block_other rfl ?_) | ((show Tri _ _ _ (.cond _ _ _) _ _ _; first | refine Tri.cTa ?_ | refine Tri.cFa ?_ | refine Tri.condTa ?_ | refine Tri.condFa ?_ | refine Tri.condNTa ?_ | refine Tri.condNFa ?_ | fail))))
  ((show Tri _ _ _ (.cond _ _ _) _ _ _; first | refine Tri.condP rfl (fun hc => ?_) (fun hc => ?_) | refine Tri.condN rfl (fun hc => ?_) (fun hc => ?_)))
  · obtain ⟨d, hd⟩ : ∃ d, xs[i]? = some d := ⟨_, List.getElem?_eq_getElem (by omega)⟩
    have hd9 := hsa d (List.mem_of_getElem? hd)
    have hta := valQ_take hd
    have hap : ∀ k, k ≤ xs.length → valQ (xs.take k) * valQ ys < 10000 ^ (k + ys.length) := fun k hk => by
      have h1 := valQ_lt (xs := xs.take k) fun x hx => hsa x (List.mem_of_mem_take hx)
      rw [List.length_take, Nat.min_eq_left hk] at h1
      rw [Nat.pow_add]
      rcases Nat.eq_zero_or_pos (valQ ys) with h0 | h0
      · rw [h0, Nat.mul_zero]; exact Nat.mul_pos (Nat.pow_pos (by omega)) (Nat.pow_pos (by omega))
      · exact Nat.lt_of_lt_of_le (Nat.mul_lt_mul_of_pos_right h1 h0) (Nat.mul_le_mul_left _ hY)
    have hxz : zs[i + ys.length]? = some 0 := by
      obtain ⟨z, hz⟩ : ∃ z, zs[i + ys.length]? = some z := ⟨_, List.getElem?_eq_getElem (by omega)⟩
      rw [valQ_get_zero (n := i + ys.length) (by rw [hval]; exact hap i (by omega)) (Nat.le_refl _) hz] at hz
      exact hz
    (repeat' (first | ((show TL _ _ _ _ (_ :: _) _ _ _; first | refine TL.fa ?_ | refine TL.ua ?_ | (refine TL.rba ?_; intro _) | (refine TL.rra ?_; first | rintro _ _ ⟨rfl, rfl⟩ | rintro _ _ rfl) | refine TL.offa ?_ | refine TL.off0a ?_ | refine TL.gu ?_ | fail)) | (first | refine Stp.h ?_ | refine Post.then_normal ?_ | refine Post.next ?_ | refine Post.block_other rfl ?_) | ((show Tri _ _ _ (.cond _ _ _) _ _ _; first | refine Tri.cTa ?_ | refine Tri.cFa ?_ | refine Tri.condTa ?_ | refine Tri.condFa ?_ | refine Tri.condNTa ?_ | refine Tri.condNFa ?_ | fail))))
    refine Tri.loop (ι := Nat × List Nat × Nat) (fun s => s.1 ≤ ys.length ∧ s.2.1.length = xs.length + ys.length ∧ (∀ x ∈ s.2.1, x < 10000) ∧ s.2.2 ≤ 10000 ∧ s.2.1[i + ys.length]? = some 0 ∧ valQ s.2.1 + 10000 ^ (i + s.1) * s.2.2 = valQ (xs.take i) * valQ ys + 10000 ^ i * d * valQ (ys.take s.1)) (fun s => ys.length - s.1)
      (fun s => [(0, v), (1, o), (5, sv), (6, .int .i64 (i : Int)), (7, .int .i64 (s.2.2 : Int)), (8, .int .i64 (s.1 : Int))]) (fun s => .ow (cN .i64) 3 sv s.2.1 :: As)
      (0, zs, 0) ⟨by omega, hxl, hxs, by simp only; omega, hxz, by simp [valQ, hval]⟩ (by (exact Sub.au)) (by (exact Ents.au)) ?_
    rintro ⟨j, us, c⟩ ⟨hj, hyl, hys, hc9, hyz, hyv⟩
    simp only at hj hyl hys hc9 hyz hyv
    show Tri _ _ _ _ [(0, v), (1, o), (5, sv), (6, .int .i64 (i : Int)), (7, .int .i64 (c : Int)), (8, .int .i64 (j : Int))] (.ow (cN .i64) 3 sv us :: As) _
    (repeat' (first | ((show TL _ _ _ _ (_ :: _) _ _ _; first | refine TL.fa ?_ | refine TL.ua ?_ | (refine TL.rba ?_; intro _) | (refine TL.rra ?_; first | rintro _ _ ⟨rfl, rfl⟩ | rintro _ _ rfl) | refine TL.offa ?_ | refine TL.off0a ?_ | refine TL.gu ?_ | fail)) | (first | refine Stp.h ?_ | refine Post.then_normal ?_ | refine Post.next ?_ | refine Post.block_other rfl ?_) | ((show Tri _ _ _ (.cond _ _ _) _ _ _; first | refine Tri.cTa ?_ | refine Tri.cFa ?_ | refine Tri.condTa ?_ | refine Tri.condFa ?_ | refine Tri.condNTa ?_ | refine Tri.condNFa ?_ | fail))))
    ((show Tri _ _ _ (.cond _ _ _) _ _ _; first | refine Tri.condP rfl (fun hc => ?_) (fun hc => ?_) | refine Tri.condN rfl (fun hc => ?_) (fun hc => ?_)))
    · obtain ⟨ee, he⟩ : ∃ ee, ys[j]? = some ee := ⟨_, List.getElem?_eq_getElem (by omega)⟩
      have he9 := hsb ee (List.mem_of_getElem? he)
      have htb := valQ_take he
      obtain ⟨p, hp⟩ : ∃ p, us[i + j]? = some p := ⟨_, List.getElem?_eq_getElem (by omega)⟩
      have hp9 := hys p (List.mem_of_getElem? hp)
      have hlim : d * ee ≤ 9999 * 10000 := Nat.mul_le_mul (by omega) he9
      have hde : (d : Int) * (ee : Int) = ((d * ee : Nat) : Int) := (Int.natCast_mul d ee).symm
      (repeat' (first | ((show TL _ _ _ _ (_ :: _) _ _ _; first | refine TL.fa ?_ | refine TL.ua ?_ | (refine TL.rba ?_; intro _) | (refine TL.rra ?_; first | rintro _ _ ⟨rfl, rfl⟩ | rintro _ _ rfl) | refine TL.offa ?_ | refine TL.off0a ?_ | refine TL.gu ?_ | fail)) | (first | refine Stp.h ?_ | refine Post.then_normal ?_ | refine Post.next ?_ | refine Post.block_other rfl ?_) | ((show Tri _ _ _ (.cond _ _ _) _ _ _; first | refine Tri.cTa ?_ | refine Tri.cFa ?_ | refine Tri.condTa ?_ | refine Tri.condFa ?_ | refine Tri.condNTa ?_ | refine Tri.condNFa ?_ | fail))))
      refine Tri.dr (.take 0 (.take 1 (.take 2 (.take 3 (.take 4 (.take 5 (.take 6 (.take 7 (.take 8 (.take 9 (.take 10 (.take 11 (.take 12 (.take 13 (.take 14 (.take 15 (.take 16 (.take 17 (.take 18 (.done)))))))))))))))))))) ?_
      (repeat' (first | ((show TL _ _ _ _ (_ :: _) _ _ _; first | refine TL.fa ?_ | refine TL.ua ?_ | (refine TL.rba ?_; intro _) | (refine TL.rra ?_; first | rintro _ _ ⟨rfl, rfl⟩ | rintro _ _ rfl) | refine TL.offa ?_ | refine TL.off0a ?_ | refine TL.gu ?_ | fail)) | (first | refine Stp.h ?_ | refine Post.then_normal ?_ | refine Post.next ?_ | refine Post.block_other rfl ?_) | (first | (show TT _ _ _ _ _ _ _ _ _; first | refine TT.takea ?_ | refine TT.takeMa ?_ | refine TT.takeOffa ?_ | refine TT.gu ?_ | fail) | exact TTs.nil | refine TTs.cons ?_ ?_ | (show T1 _ _ _ _ _ _ _ _ _ _; first | refine T1.ua ?_ | (refine T1.rba ?_; intro _) | (refine T1.rra ?_; first | rintro _ _ ⟨rfl, rfl⟩ | rintro _ _ rfl) | refine T1.fa ?_ | refine T1.offa ?_ | refine T1.off0a ?_ | fail) | (show TC _ _ _ _ _ _ _ _ _ _; first | refine TC.goa ?_ | refine TC.fina ?_ | fail)) | ((show Tri _ _ _ (.cond _ _ _) _ _ _; first | refine Tri.cTa ?_ | refine Tri.cFa ?_ | refine Tri.condTa ?_ | refine Tri.condFa ?_ | refine Tri.condNTa ?_ | refine Tri.condNFa ?_ | fail))))
      refine Post.round (j + 1, us.set (i + j) ((c + p + d * ee) % 10000), (c + p + d * ee) / 10000) ⟨by simp only; omega, by simpa using hyl, small_setQ hys (by omega), by simp only; omega, ?_, ?_⟩ (by simp only; omega) (by (exact Sub.au)) (Ents.refl _)
      · simp only
        rw [List.getElem?_set_ne (by omega)]
        exact hyz
      · simp only
        have h1 := times_stepQ (valQ_set (g := (c + p + d * ee) % 10000) hp) (rfl : c + p + d * ee = c + p + d * ee) hyv
        rw [show i + (j + 1) = (i + j) + 1 by omega, Nat.pow_succ, h1, htb, Nat.mul_add, Nat.pow_add, Nat.add_assoc]
        congr 2
        simp only [Nat.mul_assoc, Nat.mul_left_comm]
    · have hje : j = ys.length := by omega
      subst hje
      rw [valQ_take_ge (Nat.le_refl _)] at hyv
      have hc0 : c < 10000 := by
        have h1 := hap (i + 1) (by omega)
        rw [hta, Nat.add_mul, ← hyv, show i + 1 + ys.length = (i + ys.length) + 1 by omega, Nat.pow_succ] at h1
        exact Nat.lt_of_mul_lt_mul_left (a := 10000 ^ (i + ys.length)) (by omega)
      (repeat' (first | ((show TL _ _ _ _ (_ :: _) _ _ _; first | refine TL.fa ?_ | refine TL.ua ?_ | (refine TL.rba ?_; intro _) | (refine TL.rra ?_; first | rintro _ _ ⟨rfl, rfl⟩ | rintro _ _ rfl) | refine TL.offa ?_ | refine TL.off0a ?_ | refine TL.gu ?_ | fail)) | (first | refine Stp.h ?_ | refine Post.then_normal ?_ | refine Post.next ?_ | refine Post.block_other rfl ?_) | (first | (show TT _ _ _ _ _ _ _ _ _; first | refine TT.takea ?_ | refine TT.takeMa ?_ | refine TT.takeOffa ?_ | refine TT.gu ?_ | fail) | exact TTs.nil | refine TTs.cons ?_ ?_ | (show T1 _ _ _ _ _ _ _ _ _ _; first | refine T1.ua ?_ | (refine T1.rba ?_; intro _) | (refine T1.rra ?_; first | rintro _ _ ⟨rfl, rfl⟩ | rintro _ _ rfl) | refine T1.fa ?_ | refine T1.offa ?_ | refine T1.off0a ?_ | fail) | (show TC _ _ _ _ _ _ _ _ _ _; first | refine TC.goa ?_ | refine TC.fina ?_ | fail)) | ((show Tri _ _ _ (.cond _ _ _) _ _ _; first | refine Tri.cTa ?_ | refine Tri.cFa ?_ | refine Tri.condTa ?_ | refine Tri.condFa ?_ | refine Tri.condNTa ?_ | refine Tri.condNFa ?_ | fail))))
      refine Post.round (i + 1, us.set (i + ys.length) c) ⟨by simp only; omega, by simpa using hyl, small_setQ hys hc0, ?_⟩ (by simp only; omega) (by (exact Sub.au)) (by (exact Ents.au))
      simp only
      have h1 := valQ_set (g := c) hyz
      rw [hta, Nat.add_mul]
      omega
  · have hie : i = xs.length := by omega
    rw [valQ_take_ge (by omega)] at hval
    (repeat' (first | ((show TL _ _ _ _ (_ :: _) _ _ _; first | refine TL.fa ?_ | refine TL.ua ?_ | (refine TL.rba ?_; intro _) | (refine TL.rra ?_; first | rintro _ _ ⟨rfl, rfl⟩ | rintro _ _ rfl) | refine TL.offa ?_ | refine TL.off0a ?_ | refine TL.gu ?_ | fail)) | (first | refine Stp.h ?_ | refine Post.then_normal ?_ | refine Post.next ?_ | refine Post.block_other rfl ?_) | ((show Tri _ _ _ (.cond _ _ _) _ _ _; first | refine Tri.cTa ?_ | refine Tri.cFa ?_ | refine Tri.condTa ?_ | refine Tri.condFa ?_ | refine Tri.condNTa ?_ | refine Tri.condNFa ?_ | fail))))
    refine TL.ents Ents.freeze ?_
    refine TL.call rfl rfl rfl (cut_ok hxs (by omega)) ?_
    rintro _ _ ⟨p, cap, rfl, rfl⟩
    rw [hval]
    (repeat' (first | ((show TL _ _ _ _ (_ :: _) _ _ _; first | refine TL.fa ?_ | refine TL.ua ?_ | (refine TL.rba ?_; intro _) | (refine TL.rra ?_; first | rintro _ _ ⟨rfl, rfl⟩ | rintro _ _ rfl) | refine TL.offa ?_ | refine TL.off0a ?_ | refine TL.gu ?_ | fail)) | (first | refine Stp.h ?_ | refine Post.then_normal ?_ | refine Post.next ?_ | refine Post.block_other rfl ?_) | ((show Tri _ _ _ (.cond _ _ _) _ _ _; first | refine Tri.cTa ?_ | refine Tri.cFa ?_ | refine Tri.condTa ?_ | refine Tri.condFa ?_ | refine Tri.condNTa ?_ | refine Tri.condNFa ?_ | fail))))
    ((try refine Post.ret_normal ?_); first | refine Post.r1a ?_ | refine Post.r2a ?_ | refine Post.r3a ?_ | refine Post.r0a ?_ | fail)
    exact ⟨_, ⟨p, cap, rfl, rfl⟩, by (exact Ents.au)⟩
theorem timesR_ok {v o : Value} {x y : Int} [hf : RdIn As v Nat (cN .i64) (qud x.natAbs)] [hg : RdIn As o Nat (cN .i64) (qud y.natAbs)] (ha : (qud x.natAbs).length ≤ 100000000) (hb : (qud y.natAbs).length ≤ 100000000) :
    CallsS Tryz.prog w0 74 [.agg #[.bool (decide (x < 0)), v], .agg #[.bool (decide (y < 0)), o]] As (PlainR As (x * y)) := by
  refine CallsS.rdSl v fun pv cv hv => CallsS.rdSl o fun po co ho => ?_
  subst hv ho
  have e1 : (x * y).natAbs = valQ (qud (x.natAbs * y.natAbs)) := by rw [valQ_qud]; exact Int.natAbs_mul x y
  have e2 : decide (x * y < 0) = (!decide (decide (x < 0) = decide (y < 0)) && decide (valQ (qud (x.natAbs * y.natAbs)) ≠ 0)) := by rw [valQ_qud]; exact mul_neg_bit
  have hml := qud_len_mul x.natAbs y.natAbs
  refine CallsS.of_tri Tryz.func74 rfl Tryz.ntmps74 rfl ?_
  (repeat' (first | ((show TL _ _ _ _ (_ :: _) _ _ _; first | refine TL.fa ?_ | refine TL.ua ?_ | (refine TL.rba ?_; intro _) | (refine TL.rra ?_; first | rintro _ _ ⟨rfl, rfl⟩ | rintro _ _ rfl) | refine TL.offa ?_ | refine TL.off0a ?_ | refine TL.gu ?_ | fail)) | (first | refine Stp.h ?_ | refine Post.then_normal ?_ | refine Post.next ?_ | refine Post.block_other rfl ?_) | ((show Tri _ _ _ (.cond _ _ _) _ _ _; first | refine Tri.cTa ?_ | refine Tri.cFa ?_ | refine Tri.condTa ?_ | refine Tri.condFa ?_ | refine Tri.condNTa ?_ | refine Tri.condNFa ?_ | fail))))
  refine Tri.dr (.take 0 (.take 1 (.take 2 (.take 3 (.take 4 (.take 5 (.take 6 (.take 7 (.take 8 (.all [(9, .all [(10, .all [(11, .done)])])])))))))))) ?_
  (repeat' (first | ((show TL _ _ _ _ (_ :: _) _ _ _; first | refine TL.fa ?_ | refine TL.ua ?_ | (refine TL.rba ?_; intro _) | (refine TL.rra ?_; first | rintro _ _ ⟨rfl, rfl⟩ | rintro _ _ rfl) | refine TL.offa ?_ | refine TL.off0a ?_ | refine TL.gu ?_ | fail)) | (first | refine Stp.h ?_ | refine Post.then_normal ?_ | refine Post.next ?_ | refine Post.block_other rfl ?_) | (first | (show TT _ _ _ _ _ _ _ _ _; first | refine TT.takea ?_ | refine TT.takeMa ?_ | refine TT.takeOffa ?_ | refine TT.gu ?_ | fail) | exact TTs.nil | refine TTs.cons ?_ ?_ | (show T1 _ _ _ _ _ _ _ _ _ _; first | refine T1.ua ?_ | (refine T1.rba ?_; intro _) | (refine T1.rra ?_; first | rintro _ _ ⟨rfl, rfl⟩ | rintro _ _ rfl) | refine T1.fa ?_ | refine T1.offa ?_ | refine T1.off0a ?_ | fail) | (show TC _ _ _ _ _ _ _ _ _ _; first | refine TC.goa ?_ | refine TC.fina ?_ | fail)) | ((show Tri _ _ _ (.cond _ _ _) _ _ _; first | refine Tri.cTa ?_ | refine Tri.cFa ?_ | refine Tri.condTa ?_ | refine Tri.condFa ?_ | refine Tri.condNTa ?_ | refine Tri.condNFa ?_ | fail))))
  refine T1.call rfl rfl rfl rfl (productR_ok (qud_small _) (fun y hy => Nat.le_of_lt (qud_small _ y hy)) (by rw [valQ_qud]; exact Nat.le_of_lt (qud_lt_pow _)) ha hb) ?_
  rintro _ _ ⟨p, cap, rfl, rfl⟩
  rw [valQ_qud, valQ_qud]
  (repeat' (first | ((show TL _ _ _ _ (_ :: _) _ _ _; first | refine TL.fa ?_ | refine TL.ua ?_ | (refine TL.rba ?_; intro _) | (refine TL.rra ?_; first | rintro _ _ ⟨rfl, rfl⟩ | rintro _ _ rfl) | refine TL.offa ?_ | refine TL.off0a ?_ | refine TL.gu ?_ | fail)) | (first | refine Stp.h ?_ | refine Post.then_normal ?_ | refine Post.next ?_ | refine Post.block_other rfl ?_) | (first | (show TT _ _ _ _ _ _ _ _ _; first | refine TT.takea ?_ | refine TT.takeMa ?_ | refine TT.takeOffa ?_ | refine TT.gu ?_ | fail) | exact TTs.nil | refine TTs.cons ?_ ?_ | (show T1 _ _ _ _ _ _ _ _ _ _; first | refine T1.ua ?_ | (refine T1.rba ?_; intro _) | (refine T1.rra ?_; first | rintro _ _ ⟨rfl, rfl⟩ | rintro _ _ rfl) | refine T1.fa ?_ | refine T1.offa ?_ | refine T1.off0a ?_ | fail) | (show TC _ _ _ _ _ _ _ _ _ _; first | refine TC.goa ?_ | refine TC.fina ?_ | fail)) | ((show Tri _ _ _ (.cond _ _ _) _ _ _; first | refine Tri.cTa ?_ | refine Tri.cFa ?_ | refine Tri.condTa ?_ | refine Tri.condFa ?_ | refine Tri.condNTa ?_ | refine Tri.condNFa ?_ | fail))))
  refine T1.call rfl rfl rfl rfl (made_ok (xs := qud (x.natAbs * y.natAbs)) (z := x * y) (qud_small _) (by omega) e1 e2) ?_
  rintro _ _ ⟨p', cap', rfl, rfl⟩
  (repeat' (first | ((show TL _ _ _ _ (_ :: _) _ _ _; first | refine TL.fa ?_ | refine TL.ua ?_ | (refine TL.rba ?_; intro _) | (refine TL.rra ?_; first | rintro _ _ ⟨rfl, rfl⟩ | rintro _ _ rfl) | refine TL.offa ?_ | refine TL.off0a ?_ | refine TL.gu ?_ | fail)) | (first | refine Stp.h ?_ | refine Post.then_normal ?_ | refine Post.next ?_ | refine Post.block_other rfl ?_) | (first | (show TT _ _ _ _ _ _ _ _ _; first | refine TT.takea ?_ | refine TT.takeMa ?_ | refine TT.takeOffa ?_ | refine TT.gu ?_ | fail) | exact TTs.nil | refine TTs.cons ?_ ?_ | (show T1 _ _ _ _ _ _ _ _ _ _; first | refine T1.ua ?_ | (refine T1.rba ?_; intro _) | (refine T1.rra ?_; first | rintro _ _ ⟨rfl, rfl⟩ | rintro _ _ rfl) | refine T1.fa ?_ | refine T1.offa ?_ | refine T1.off0a ?_ | fail) | (show TC _ _ _ _ _ _ _ _ _ _; first | refine TC.goa ?_ | refine TC.fina ?_ | fail)) | ((show Tri _ _ _ (.cond _ _ _) _ _ _; first | refine Tri.cTa ?_ | refine Tri.cFa ?_ | refine Tri.condTa ?_ | refine Tri.condFa ?_ | refine Tri.condNTa ?_ | refine Tri.condNFa ?_ | fail))))
  ((try refine Post.ret_normal ?_); first | refine Post.r1a ?_ | refine Post.r2a ?_ | refine Post.r3a ?_ | refine Post.r0a ?_ | fail)
  exact ⟨_, ⟨p', cap', rfl, rfl⟩, by (exact Ents.au)⟩
theorem raisedR_ok {v : Value} {x : Int} {n : Nat} [hf : RdIn As v Nat (cN .i64) (qud x.natAbs)] (ha : (qud x.natAbs).length ≤ 1000000) (hL : (qud x.natAbs).length * n ≤ 1000000) (hn : n ≤ 1000000) :
    CallsS Tryz.prog w0 70 [.agg #[.bool (decide (x < 0)), v], .int .i64 (n : Int)] As (PlainR As (x ^ n)) := by
  refine CallsS.rdSl v fun pv cv hv => ?_
  subst hv
  refine CallsS.of_tri Tryz.func70 rfl Tryz.ntmps70 rfl ?_
  (repeat' (first | ((show TL _ _ _ _ (_ :: _) _ _ _; first | refine TL.fa ?_ | refine TL.ua ?_ | (refine TL.rba ?_; intro _) | (refine TL.rra ?_; first | rintro _ _ ⟨rfl, rfl⟩ | rintro _ _ rfl) | refine TL.offa ?_ | refine TL.off0a ?_ | refine TL.gu ?_ | fail)) | (first | refine Stp.h ?_ | refine Post.then_normal ?_ | refine Post.next ?_ | refine Post.block_other rfl ?_) | (first | (show TT _ _ _ _ _ _ _ _ _; first | refine TT.takea ?_ | refine TT.takeMa ?_ | refine TT.takeOffa ?_ | refine TT.gu ?_ | fail) | exact TTs.nil | refine TTs.cons ?_ ?_ | (show T1 _ _ _ _ _ _ _ _ _ _; first | refine T1.ua ?_ | (refine T1.rba ?_; intro _) | (refine T1.rra ?_; first | rintro _ _ ⟨rfl, rfl⟩ | rintro _ _ rfl) | refine T1.fa ?_ | refine T1.offa ?_ | refine T1.off0a ?_ | fail) | (show TC _ _ _ _ _ _ _ _ _ _; first | refine TC.goa ?_ | refine TC.fina ?_ | fail)) | ((show Tri _ _ _ (.cond _ _ _) _ _ _; first | refine Tri.cTa ?_ | refine Tri.cFa ?_ | refine Tri.condTa ?_ | refine Tri.condFa ?_ | refine Tri.condNTa ?_ | refine Tri.condNFa ?_ | fail))))
  refine TL.call rfl rfl rfl (integerR_ok (n := 1) (by omega) (by omega)) ?_
  rintro _ _ ⟨p, cap, rfl, rfl⟩
  (repeat' (first | ((show TL _ _ _ _ (_ :: _) _ _ _; first | refine TL.fa ?_ | refine TL.ua ?_ | (refine TL.rba ?_; intro _) | (refine TL.rra ?_; first | rintro _ _ ⟨rfl, rfl⟩ | rintro _ _ rfl) | refine TL.offa ?_ | refine TL.off0a ?_ | refine TL.gu ?_ | fail)) | (first | refine Stp.h ?_ | refine Post.then_normal ?_ | refine Post.next ?_ | refine Post.block_other rfl ?_) | (first | (show TT _ _ _ _ _ _ _ _ _; first | refine TT.takea ?_ | refine TT.takeMa ?_ | refine TT.takeOffa ?_ | refine TT.gu ?_ | fail) | exact TTs.nil | refine TTs.cons ?_ ?_ | (show T1 _ _ _ _ _ _ _ _ _ _; first | refine T1.ua ?_ | (refine T1.rba ?_; intro _) | (refine T1.rra ?_; first | rintro _ _ ⟨rfl, rfl⟩ | rintro _ _ rfl) | refine T1.fa ?_ | refine T1.offa ?_ | refine T1.off0a ?_ | fail) | (show TC _ _ _ _ _ _ _ _ _ _; first | refine TC.goa ?_ | refine TC.fina ?_ | fail)) | ((show Tri _ _ _ (.cond _ _ _) _ _ _; first | refine Tri.cTa ?_ | refine Tri.cFa ?_ | refine Tri.condTa ?_ | refine Tri.condFa ?_ | refine Tri.condNTa ?_ | refine Tri.condNFa ?_ | fail))))
  rename_i b2 b4 b5
  refine Tri.loop (ι := Nat × Option Addr × Nat) (fun s => s.1 ≤ n) (fun s => n - s.1)
    (fun s => [(1, .int .i64 (n : Int)), (2, .pointer (some ⟨b2, 0, none⟩)), (4, .pointer (some ⟨b4, 0, none⟩)), (5, .pointer (some ⟨b5, 0, none⟩)), (6, .int .i64 (s.1 : Int))])
    (fun s => .cl b5 [.bool (decide (x ^ s.1 < 0)), .slice s.2.1 (qud (x ^ s.1).natAbs).length s.2.2] 68 :: .ft (rd (cN .i64) (.slice s.2.1 (qud (x ^ s.1).natAbs).length s.2.2) (qud (x ^ s.1).natAbs)) :: .cl b4 [.bool false, .slice none 0 0] 68 :: .cl b2 [.bool (decide (x < 0)), .slice pv (qud x.natAbs).length cv] 68 :: As)
    (0, p, cap) (by omega) (by (exact Sub.au)) (by simp only [Int.pow_zero]; (exact Ents.au)) ?_
  rintro ⟨k, pk, ck⟩ hk
  simp only at hk
  show Tri _ _ _ _ [(1, _), (2, _), (4, _), (5, _), (6, .int .i64 (k : Int))] (.cl b5 [.bool (decide (x ^ k < 0)), .slice pk (qud (x ^ k).natAbs).length ck] _ :: .ft (rd (cN .i64) (.slice pk (qud (x ^ k).natAbs).length ck) (qud (x ^ k).natAbs)) :: _) _
  have hpl : (qud (x ^ k).natAbs).length ≤ 1000001 := by
    have h1 := qud_len_pw x.natAbs k
    have h2 := Nat.mul_le_mul_left (qud x.natAbs).length hk
    rw [Int.natAbs_pow]
    omega
  (repeat' (first | ((show TL _ _ _ _ (_ :: _) _ _ _; first | refine TL.fa ?_ | refine TL.ua ?_ | (refine TL.rba ?_; intro _) | (refine TL.rra ?_; first | rintro _ _ ⟨rfl, rfl⟩ | rintro _ _ rfl) | refine TL.offa ?_ | refine TL.off0a ?_ | refine TL.gu ?_ | fail)) | (first | refine Stp.h ?_ | refine Post.then_normal ?_ | refine Post.next ?_ | refine Post.block_other rfl ?_) | ((show Tri _ _ _ (.cond _ _ _) _ _ _; first | refine Tri.cTa ?_ | refine Tri.cFa ?_ | refine Tri.condTa ?_ | refine Tri.condFa ?_ | refine Tri.condNTa ?_ | refine Tri.condNFa ?_ | fail))))
  ((show Tri _ _ _ (.cond _ _ _) _ _ _; first | refine Tri.condP rfl (fun hc => ?_) (fun hc => ?_) | refine Tri.condN rfl (fun hc => ?_) (fun hc => ?_)))
  · (repeat' (first | ((show TL _ _ _ _ (_ :: _) _ _ _; first | refine TL.fa ?_ | refine TL.ua ?_ | (refine TL.rba ?_; intro _) | (refine TL.rra ?_; first | rintro _ _ ⟨rfl, rfl⟩ | rintro _ _ rfl) | refine TL.offa ?_ | refine TL.off0a ?_ | refine TL.gu ?_ | fail)) | (first | refine Stp.h ?_ | refine Post.then_normal ?_ | refine Post.next ?_ | refine Post.block_other rfl ?_) | ((show Tri _ _ _ (.cond _ _ _) _ _ _; first | refine Tri.cTa ?_ | refine Tri.cFa ?_ | refine Tri.condTa ?_ | refine Tri.condFa ?_ | refine Tri.condNTa ?_ | refine Tri.condNFa ?_ | fail))))
    refine TL.call rfl rfl rfl (timesR_ok (x := x ^ k) (y := x) (by omega) (by omega)) ?_
    rintro _ _ ⟨p', cap', rfl, rfl⟩
    rw [← Int.pow_succ]
    (repeat' (first | ((show TL _ _ _ _ (_ :: _) _ _ _; first | refine TL.fa ?_ | refine TL.ua ?_ | (refine TL.rba ?_; intro _) | (refine TL.rra ?_; first | rintro _ _ ⟨rfl, rfl⟩ | rintro _ _ rfl) | refine TL.offa ?_ | refine TL.off0a ?_ | refine TL.gu ?_ | fail)) | (first | refine Stp.h ?_ | refine Post.then_normal ?_ | refine Post.next ?_ | refine Post.block_other rfl ?_) | ((show Tri _ _ _ (.cond _ _ _) _ _ _; first | refine Tri.cTa ?_ | refine Tri.cFa ?_ | refine Tri.condTa ?_ | refine Tri.condFa ?_ | refine Tri.condNTa ?_ | refine Tri.condNFa ?_ | fail))))
    exact Post.round (k + 1, p', cap') (by simp only; omega) (by simp only; omega) (by (exact Sub.au)) (by (exact Ents.au))
  · have hkn : k = n := by omega
    subst hkn
    (repeat' (first | ((show TL _ _ _ _ (_ :: _) _ _ _; first | refine TL.fa ?_ | refine TL.ua ?_ | (refine TL.rba ?_; intro _) | (refine TL.rra ?_; first | rintro _ _ ⟨rfl, rfl⟩ | rintro _ _ rfl) | refine TL.offa ?_ | refine TL.off0a ?_ | refine TL.gu ?_ | fail)) | (first | refine Stp.h ?_ | refine Post.then_normal ?_ | refine Post.next ?_ | refine Post.block_other rfl ?_) | ((show Tri _ _ _ (.cond _ _ _) _ _ _; first | refine Tri.cTa ?_ | refine Tri.cFa ?_ | refine Tri.condTa ?_ | refine Tri.condFa ?_ | refine Tri.condNTa ?_ | refine Tri.condNFa ?_ | fail))))
    ((try refine Post.ret_normal ?_); first | refine Post.r1a ?_ | refine Post.r2a ?_ | refine Post.r3a ?_ | refine Post.r0a ?_ | fail)
    exact ⟨_, ⟨pk, ck, rfl, rfl⟩, by (exact Ents.au)⟩
end Go.Proofs.YtfbhlfhecmhihaaGreatDoor
