/- Walks: frac: integers. -/
import Derived.Test.YtldljckhfcoafaaGreatDoorCb4
import Derived.Test.YtldljckhfcoafaaGreatDoorCp1
import Derived.Test.YtldljckhfcoafaaGreatDoorWb5
namespace Go.Sx
open Go
theorem scaled_sign {x : Int} {m : Nat} : decide (x * (m : Int) < 0) = (decide (x < 0) && decide (x.natAbs * m ≠ 0)) := by
  rw [Bool.eq_iff_iff, decide_eq_true_eq, Bool.and_eq_true, decide_eq_true_eq, decide_eq_true_eq]
  rcases Nat.eq_zero_or_pos m with h | h
  · subst h; simp
  · constructor
    · intro h1
      have h2 : x < 0 := by
        rcases Int.lt_or_le x 0 with h2 | h2
        · exact h2
        · have := Int.mul_nonneg h2 (show (0 : Int) ≤ m by omega); omega
      exact ⟨h2, Nat.mul_ne_zero (by omega) (by omega)⟩
    · rintro ⟨h1, _⟩
      exact Int.mul_neg_of_neg_of_pos h1 (by omega)
theorem floor_abs {x : Int} {d : Nat} (hd : d ≠ 0) : (x / (d : Int)).natAbs = (if x < 0 ∧ x.natAbs % d ≠ 0 then x.natAbs / d + 1 else x.natAbs / d) ∧ decide (x / (d : Int) < 0) = (decide (x < 0) && decide ((if x < 0 ∧ x.natAbs % d ≠ 0 then x.natAbs / d + 1 else x.natAbs / d) ≠ 0)) := by
  have hm := Nat.div_add_mod x.natAbs d
  have hl := Nat.mod_lt x.natAbs (Nat.pos_of_ne_zero hd)
  generalize x.natAbs / d = q at *
  generalize x.natAbs % d = r at *
  have key : x / (d : Int) = if x < 0 then (if r ≠ 0 then -((q : Int) + 1) else -(q : Int)) else (q : Int) := by
    have hc : ((d * q + r : Nat) : Int) = (d : Int) * (q : Int) + (r : Int) := by push_cast; rfl
    split
    · rename_i hx
      have hx2 : x = -((d : Int) * (q : Int) + (r : Int)) := by omega
      split
      · rw [hx2]
        have e : -((d : Int) * (q : Int) + (r : Int)) = ((d : Int) - (r : Int)) + (d : Int) * (-((q : Int) + 1)) := by grind
        rw [e, Int.add_mul_ediv_left _ _ (by omega), Int.ediv_eq_zero_of_lt (by omega) (by omega), Int.zero_add]
      · rename_i hr
        have hr : r = 0 := by omega
        subst hr
        rw [hx2]
        have e : -((d : Int) * (q : Int) + ((0 : Nat) : Int)) = (d : Int) * (-(q : Int)) := by grind
        rw [e, Int.mul_ediv_cancel_left _ (by omega)]
    · rename_i hx
      have hx2 : x = (r : Int) + (d : Int) * (q : Int) := by omega
      rw [hx2, Int.add_mul_ediv_left _ _ (by omega), Int.ediv_eq_zero_of_lt (by omega) (by omega), Int.zero_add]
  rw [key]
  by_cases hx : x < 0
  · by_cases hr : r ≠ 0
    · simp only [hx, hr, if_true, and_self, decide_true, Bool.true_and, not_false_eq_true, ne_eq]
      refine ⟨by omega, ?_⟩
      rw [Bool.eq_iff_iff, decide_eq_true_eq, decide_eq_true_eq]; omega
    · simp only [hx, hr, if_true, if_false, and_false, decide_true, Bool.true_and]
      refine ⟨by omega, ?_⟩
      rw [Bool.eq_iff_iff, decide_eq_true_eq, decide_eq_true_eq]; omega
  · simp only [hx, if_false, false_and, decide_false, Bool.false_and]
    refine ⟨by omega, ?_⟩
    rw [decide_eq_false_iff_not]; omega
end Go.Sx
namespace Go.Proofs.YtldljckhfcoafaaGreatDoor.Q
open Go Go.Sx
variable {w0 : World} {As : List Ent}
theorem signed_ok {v : Value} {n : Nat} {b : Bool} [hr : RdIn As v Nat (cN .u32) (mag n)] : CallsS Tryz.prog w0 74 [v, .bool b] As fun u Bs => u = .agg #[v, .bool (b && decide (n ≠ 0))] ∧ Bs = As := by
  refine CallsS.rdSl v fun p cap hv => ?_
  subst hv
  refine CallsS.of_tri Tryz.func74 rfl Tryz.ntmps74 rfl ?_
  cases b
  · (repeat' (first | (show TL _ _ _ _ (_ :: _) _ _ _; first | refine TL.sa ?_ | (refine TL.na ?_; intro _)) | (first | refine Stp.h ?_ | refine Post.then_normal ?_ | refine Post.next ?_ | refine Post.block_other rfl ?_) | refine Tri.ca ?_))
    (refine Post.ra ?_)
    exact ⟨_, ⟨rfl, rfl⟩, by (exact Ents.au)⟩
  · (repeat' (first | (show TL _ _ _ _ (_ :: _) _ _ _; first | refine TL.sa ?_ | (refine TL.na ?_; intro _)) | (first | refine Stp.h ?_ | refine Post.then_normal ?_ | refine Post.next ?_ | refine Post.block_other rfl ?_) | refine Tri.ca ?_))
    refine TL.call rfl rfl rfl zero_ok ?_
    rintro _ As ⟨rfl, rfl⟩
    (repeat' (first | (show TL _ _ _ _ (_ :: _) _ _ _; first | refine TL.sa ?_ | (refine TL.na ?_; intro _)) | (first | refine Stp.h ?_ | refine Post.then_normal ?_ | refine Post.next ?_ | refine Post.block_other rfl ?_) | refine Tri.ca ?_))
    (refine Post.ra ?_)
    exact ⟨_, ⟨by simp, rfl⟩, by (exact Ents.au)⟩
theorem number_ok {s : List UInt8} {z : Int} (h : readW s = some z) : CallsS Tryz.prog w0 92 [.string ⟨s.toArray⟩] As (SgnR As z) := by
  refine CallsS.of_tri Tryz.func92 rfl Tryz.ntmps92 rfl ?_
  (repeat' (first | (show TL _ _ _ _ (_ :: _) _ _ _; first | refine TL.sa ?_ | (refine TL.na ?_; intro _)) | (first | refine Stp.h ?_ | refine Post.then_normal ?_ | refine Post.next ?_ | refine Post.block_other rfl ?_) | refine Tri.ca ?_))
  refine TL.call rfl rfl rfl cutPrefix_ok ?_
  rintro _ As ⟨rfl, rfl⟩
  obtain ⟨neg, hneg⟩ : ∃ neg, Lib.hasPrefix s [45] = neg := ⟨_, rfl⟩
  obtain ⟨l, hll⟩ : ∃ l, Lib.trimPrefix s [45] = l := ⟨_, rfl⟩
  rw [hneg, hll]
  have hrw := readW_eq hneg hll
  rw [h] at hrw
  split at hrw
  · rename_i hc
    obtain ⟨h0, h6, hd, h48⟩ := hc
    rw [Option.some.injEq] at hrw
    have e1 : z.natAbs = numOf l := by rw [hrw]; split <;> omega
    have e2 : decide (z < 0) = neg := by
      rw [hrw]
      cases neg
      · simp
      · have := numOf_pos hd h0 fun h1 => by have := (h48 h1).1; cases this
        simp; omega
    (repeat' (first | (show TL _ _ _ _ (_ :: _) _ _ _; first | refine TL.sa ?_ | (refine TL.na ?_; intro _)) | (first | refine Stp.h ?_ | refine Post.then_normal ?_ | refine Post.next ?_ | refine Post.block_other rfl ?_) | refine Tri.ca ?_))
    refine TL.call rfl rfl rfl (gather_ok hd h0 (by omega)) ?_
    rintro _ _ ⟨p, cap, rfl, rfl⟩
    (repeat' (first | (show TL _ _ _ _ (_ :: _) _ _ _; first | refine TL.sa ?_ | (refine TL.na ?_; intro _)) | (first | refine Stp.h ?_ | refine Post.then_normal ?_ | refine Post.next ?_ | refine Post.block_other rfl ?_) | refine Tri.ca ?_))
    (refine Post.ra ?_)
    exact ⟨_, ⟨p, cap, by rw [e1, e2]; rfl, by rw [e1]⟩, by (exact Ents.au)⟩
  · cases hrw
theorem text_ok (ht : Tab w0) {v : Value} {z : Int} [hr : RdIn As v Nat (cN .u32) (mag z.natAbs)] (hl : (mag z.natAbs).length ≤ 1000) :
    CallsS Tryz.prog w0 90 [.agg #[v, .bool (decide (z < 0))]] As fun u Bs => u = .string ⟨(textI z).toArray⟩ ∧ Bs = As := by
  refine CallsS.rdSl v fun pv cv hv => ?_
  subst hv
  refine CallsS.of_tri Tryz.func90 rfl Tryz.ntmps90 rfl ?_
  (repeat' (first | (show TL _ _ _ _ (_ :: _) _ _ _; first | refine TL.sa ?_ | (refine TL.na ?_; intro _)) | (first | refine Stp.h ?_ | refine Post.then_normal ?_ | refine Post.next ?_ | refine Post.block_other rfl ?_) | refine Tri.ca ?_))
  ((show Tri _ _ _ (.cond _ _ _) _ _ _; first | refine Tri.condP rfl (fun hc => ?_) (fun hc => ?_) | refine Tri.condN rfl (fun hc => ?_) (fun hc => ?_)))
  · (repeat' (first | (show TL _ _ _ _ (_ :: _) _ _ _; first | refine TL.sa ?_ | (refine TL.na ?_; intro _)) | (first | refine Stp.h ?_ | refine Post.then_normal ?_ | refine Post.next ?_ | refine Post.block_other rfl ?_) | refine Tri.ca ?_))
    refine TL.call rfl rfl rfl (digits_ok ht hl) ?_
    rintro _ As ⟨rfl, rfl⟩
    have hdl := dec_len z.natAbs
    have hdm := nDigits_le_mag z.natAbs
    (repeat' (first | (show TL _ _ _ _ (_ :: _) _ _ _; first | refine TL.sa ?_ | (refine TL.na ?_; intro _)) | (first | refine Stp.h ?_ | refine Post.then_normal ?_ | refine Post.next ?_ | refine Post.block_other rfl ?_) | refine Tri.ca ?_))
    (refine Post.ra ?_)
    refine ⟨_, ⟨?_, rfl⟩, by (exact Ents.au)⟩
    simp only [textI, Lib.itoa, if_pos hc]
    rfl
  · (repeat' (first | (show TL _ _ _ _ (_ :: _) _ _ _; first | refine TL.sa ?_ | (refine TL.na ?_; intro _)) | (first | refine Stp.h ?_ | refine Post.then_normal ?_ | refine Post.next ?_ | refine Post.block_other rfl ?_) | refine Tri.ca ?_))
    refine TL.call rfl rfl rfl (digits_ok ht hl) ?_
    rintro _ As ⟨rfl, rfl⟩
    (repeat' (first | (show TL _ _ _ _ (_ :: _) _ _ _; first | refine TL.sa ?_ | (refine TL.na ?_; intro _)) | (first | refine Stp.h ?_ | refine Post.then_normal ?_ | refine Post.next ?_ | refine Post.block_other rfl ?_) | refine Tri.ca ?_))
    (refine Post.ra ?_)
    refine ⟨_, ⟨?_, rfl⟩, by (exact Ents.au)⟩
    simp only [textI, Lib.itoa, if_neg hc]
    rw [show z.natAbs = z.toNat by omega]
theorem opposite_ok {v : Value} {x : Int} [hf : RdIn As v Nat (cN .u32) (mag x.natAbs)] : CallsS Tryz.prog w0 147 [.agg #[v, .bool (decide (x < 0))]] As fun u Bs => u = .agg #[v, .bool (decide (-x < 0))] ∧ Bs = As := by
  refine CallsS.rdSl v fun pv cv hv => ?_
  subst hv
  refine CallsS.of_tri Tryz.func147 rfl Tryz.ntmps147 rfl ?_
  have e1 : (!decide (x < 0) && decide (x.natAbs ≠ 0)) = decide (-x < 0) := by
    rw [Bool.eq_iff_iff]
    simp only [Bool.and_eq_true, Bool.not_eq_true', decide_eq_false_iff_not, decide_eq_true_eq]
    omega
  (repeat' (first | (show TL _ _ _ _ (_ :: _) _ _ _; first | refine TL.sa ?_ | (refine TL.na ?_; intro _)) | (first | refine Stp.h ?_ | refine Post.then_normal ?_ | refine Post.next ?_ | refine Post.block_other rfl ?_) | refine Tri.ca ?_))
  refine TL.call rfl rfl rfl (signed_ok (n := x.natAbs)) ?_
  rintro _ As ⟨rfl, rfl⟩
  rw [e1]
  (repeat' (first | (show TL _ _ _ _ (_ :: _) _ _ _; first | refine TL.sa ?_ | (refine TL.na ?_; intro _)) | (first | refine Stp.h ?_ | refine Post.then_normal ?_ | refine Post.next ?_ | refine Post.block_other rfl ?_) | refine Tri.ca ?_))
  (refine Post.ra ?_)
  exact ⟨_, ⟨rfl, rfl⟩, by (exact Ents.au)⟩
theorem sign_ok {v : Value} {x : Int} [hf : RdIn As v Nat (cN .u32) (mag x.natAbs)] : CallsS Tryz.prog w0 98 [.agg #[v, .bool (decide (x < 0))]] As fun u Bs => u = .int .i64 (signI x) ∧ Bs = As := by
  refine CallsS.rdSl v fun pv cv hv => ?_
  subst hv
  refine CallsS.of_tri Tryz.func98 rfl Tryz.ntmps98 rfl ?_
  (repeat' (first | (show TL _ _ _ _ (_ :: _) _ _ _; first | refine TL.sa ?_ | (refine TL.na ?_; intro _)) | (first | refine Stp.h ?_ | refine Post.then_normal ?_ | refine Post.next ?_ | refine Post.block_other rfl ?_) | refine Tri.ca ?_))
  refine TL.call rfl rfl rfl (zero_ok (n := x.natAbs)) ?_
  rintro _ As ⟨rfl, rfl⟩
  by_cases h0 : x.natAbs = 0
  · (repeat' (first | (show TL _ _ _ _ (_ :: _) _ _ _; first | refine TL.sa ?_ | (refine TL.na ?_; intro _)) | (first | refine Stp.h ?_ | refine Post.then_normal ?_ | refine Post.next ?_ | refine Post.block_other rfl ?_) | refine Tri.ca ?_))
    (refine Post.ra ?_)
    exact ⟨_, ⟨by rw [signI, if_neg (by omega), if_pos (by omega)], rfl⟩, by (exact Ents.au)⟩
  · by_cases h1 : x < 0
    · (repeat' (first | (show TL _ _ _ _ (_ :: _) _ _ _; first | refine TL.sa ?_ | (refine TL.na ?_; intro _)) | (first | refine Stp.h ?_ | refine Post.then_normal ?_ | refine Post.next ?_ | refine Post.block_other rfl ?_) | refine Tri.ca ?_))
      (refine Post.ra ?_)
      exact ⟨_, ⟨by rw [signI, if_pos h1], rfl⟩, by (exact Ents.au)⟩
    · (repeat' (first | (show TL _ _ _ _ (_ :: _) _ _ _; first | refine TL.sa ?_ | (refine TL.na ?_; intro _)) | (first | refine Stp.h ?_ | refine Post.then_normal ?_ | refine Post.next ?_ | refine Post.block_other rfl ?_) | refine Tri.ca ?_))
      (refine Post.ra ?_)
      exact ⟨_, ⟨by rw [signI, if_neg h1, if_neg (by omega)], rfl⟩, by (exact Ents.au)⟩
theorem sum_ok {v o : Value} {x y : Int} [hf : RdIn As v Nat (cN .u32) (mag x.natAbs)] [hg : RdIn As o Nat (cN .u32) (mag y.natAbs)] (ha : (mag x.natAbs).length ≤ 100000000) (hb : (mag y.natAbs).length ≤ 100000000) :
    CallsS Tryz.prog w0 140 [.agg #[v, .bool (decide (x < 0))], .agg #[o, .bool (decide (y < 0))]] As (SgnR As (x + y)) := by
  refine CallsS.rdSl v fun pv cv hv => CallsS.rdSl o fun po co ho => ?_
  subst hv ho
  refine CallsS.of_tri Tryz.func140 rfl Tryz.ntmps140 rfl ?_
  (repeat' (first | (show TL _ _ _ _ (_ :: _) _ _ _; first | refine TL.sa ?_ | (refine TL.na ?_; intro _)) | (first | refine Stp.h ?_ | refine Post.then_normal ?_ | refine Post.next ?_ | refine Post.block_other rfl ?_) | refine Tri.ca ?_))
  ((show Tri _ _ _ (.cond _ _ _) _ _ _; first | refine Tri.condP rfl (fun hc => ?_) (fun hc => ?_) | refine Tri.condN rfl (fun hc => ?_) (fun hc => ?_)))
  · have hs : (x < 0 ∧ y < 0) ∨ (¬ x < 0 ∧ ¬ y < 0) := by
      by_cases h1 : x < 0 <;> by_cases h2 : y < 0 <;> simp [h1, h2] at hc <;> omega
    have e1 : (x + y).natAbs = x.natAbs + y.natAbs := by omega
    have e2 : decide (x + y < 0) = (decide (x < 0) && decide (x.natAbs + y.natAbs ≠ 0)) := by
      rcases hs with ⟨h1, h2⟩ | ⟨h1, h2⟩
      · simp only [h1, decide_true, Bool.true_and]; rw [Bool.eq_iff_iff, decide_eq_true_eq, decide_eq_true_eq]; omega
      · simp only [h1, decide_false, Bool.false_and]; rw [decide_eq_false_iff_not]; omega
    (repeat' (first | (show TL _ _ _ _ (_ :: _) _ _ _; first | refine TL.sa ?_ | (refine TL.na ?_; intro _)) | (first | refine Stp.h ?_ | refine Post.then_normal ?_ | refine Post.next ?_ | refine Post.block_other rfl ?_) | refine Tri.ca ?_))
    refine Tri.dr (.take 0 (.take 1 (.take 2 (.take 3 (.take 5 (.take 6 (.all [(4, .all [(7, .all [(8, .done)])])]))))))) ?_
    (repeat' (first | (show TL _ _ _ _ (_ :: _) _ _ _; first | refine TL.sa ?_ | (refine TL.na ?_; intro _)) | (first | refine Stp.h ?_ | refine Post.then_normal ?_ | refine Post.next ?_ | refine Post.block_other rfl ?_) | (show TT _ _ _ _ _ _ _ _ _; refine TT.sa ?_) | exact TTs.nil | refine TTs.cons ?_ ?_ | (show T1 _ _ _ _ _ _ _ _ _ _; first | refine T1.sa ?_ | (refine T1.na ?_; intro _)) | (show TC _ _ _ _ _ _ _ _ _ _; first | refine TC.goa ?_ | refine TC.fina ?_) | refine Tri.ca ?_))
    refine T1.call rfl rfl rfl rfl (plus_ok ha hb) ?_
    rintro _ _ ⟨p, cap, rfl, rfl⟩
    (repeat' (first | (show TL _ _ _ _ (_ :: _) _ _ _; first | refine TL.sa ?_ | (refine TL.na ?_; intro _)) | (first | refine Stp.h ?_ | refine Post.then_normal ?_ | refine Post.next ?_ | refine Post.block_other rfl ?_) | (show TT _ _ _ _ _ _ _ _ _; refine TT.sa ?_) | exact TTs.nil | refine TTs.cons ?_ ?_ | (show T1 _ _ _ _ _ _ _ _ _ _; first | refine T1.sa ?_ | (refine T1.na ?_; intro _)) | (show TC _ _ _ _ _ _ _ _ _ _; first | refine TC.goa ?_ | refine TC.fina ?_) | refine Tri.ca ?_))
    refine T1.call rfl rfl rfl rfl (signed_ok (n := x.natAbs + y.natAbs)) ?_
    rintro _ _ ⟨rfl, rfl⟩
    (repeat' (first | (show TL _ _ _ _ (_ :: _) _ _ _; first | refine TL.sa ?_ | (refine TL.na ?_; intro _)) | (first | refine Stp.h ?_ | refine Post.then_normal ?_ | refine Post.next ?_ | refine Post.block_other rfl ?_) | (show TT _ _ _ _ _ _ _ _ _; refine TT.sa ?_) | exact TTs.nil | refine TTs.cons ?_ ?_ | (show T1 _ _ _ _ _ _ _ _ _ _; first | refine T1.sa ?_ | (refine T1.na ?_; intro _)) | (show TC _ _ _ _ _ _ _ _ _ _; first | refine TC.goa ?_ | refine TC.fina ?_) | refine Tri.ca ?_))
    (refine Post.ra ?_)
    exact ⟨_, sgnR_of e1 e2, by (exact Ents.au)⟩
  · have hs : (x < 0 ∧ ¬ y < 0) ∨ (¬ x < 0 ∧ y < 0) := by
      by_cases h1 : x < 0 <;> by_cases h2 : y < 0 <;> simp [h1, h2] at hc <;> omega
    (repeat' (first | (show TL _ _ _ _ (_ :: _) _ _ _; first | refine TL.sa ?_ | (refine TL.na ?_; intro _)) | (first | refine Stp.h ?_ | refine Post.then_normal ?_ | refine Post.next ?_ | refine Post.block_other rfl ?_) | (show TT _ _ _ _ _ _ _ _ _; refine TT.sa ?_) | exact TTs.nil | refine TTs.cons ?_ ?_ | (show T1 _ _ _ _ _ _ _ _ _ _; first | refine T1.sa ?_ | (refine T1.na ?_; intro _)) | (show TC _ _ _ _ _ _ _ _ _ _; first | refine TC.goa ?_ | refine TC.fina ?_) | refine Tri.ca ?_))
    refine TL.call rfl rfl rfl (compare_ok ha hb) ?_
    rintro _ As ⟨rfl, rfl⟩
    (repeat' (first | (show TL _ _ _ _ (_ :: _) _ _ _; first | refine TL.sa ?_ | (refine TL.na ?_; intro _)) | (first | refine Stp.h ?_ | refine Post.then_normal ?_ | refine Post.next ?_ | refine Post.block_other rfl ?_) | (show TT _ _ _ _ _ _ _ _ _; refine TT.sa ?_) | exact TTs.nil | refine TTs.cons ?_ ?_ | (show T1 _ _ _ _ _ _ _ _ _ _; first | refine T1.sa ?_ | (refine T1.na ?_; intro _)) | (show TC _ _ _ _ _ _ _ _ _ _; first | refine TC.goa ?_ | refine TC.fina ?_) | refine Tri.ca ?_))
    ((show Tri _ _ _ (.cond _ _ _) _ _ _; first | refine Tri.condP rfl (fun hc => ?_) (fun hc => ?_) | refine Tri.condN rfl (fun hc => ?_) (fun hc => ?_)))
    · have hlt := cmp_lt.1 hc
      have e1 : (x + y).natAbs = y.natAbs - x.natAbs := by omega
      have e2 : decide (x + y < 0) = (decide (y < 0) && decide (y.natAbs - x.natAbs ≠ 0)) := by
        by_cases h2 : y < 0
        · simp only [h2, decide_true, Bool.true_and]; rw [Bool.eq_iff_iff, decide_eq_true_eq, decide_eq_true_eq]; omega
        · simp only [h2, decide_false, Bool.false_and]; rw [decide_eq_false_iff_not]; omega
      (repeat' (first | (show TL _ _ _ _ (_ :: _) _ _ _; first | refine TL.sa ?_ | (refine TL.na ?_; intro _)) | (first | refine Stp.h ?_ | refine Post.then_normal ?_ | refine Post.next ?_ | refine Post.block_other rfl ?_) | (show TT _ _ _ _ _ _ _ _ _; refine TT.sa ?_) | exact TTs.nil | refine TTs.cons ?_ ?_ | (show T1 _ _ _ _ _ _ _ _ _ _; first | refine T1.sa ?_ | (refine T1.na ?_; intro _)) | (show TC _ _ _ _ _ _ _ _ _ _; first | refine TC.goa ?_ | refine TC.fina ?_) | refine Tri.ca ?_))
      refine Tri.dr (.take 0 (.take 1 (.take 2 (.take 3 (.take 5 (.take 6 (.all [(4, .all [(7, .all [(8, .done)])])]))))))) ?_
      (repeat' (first | (show TL _ _ _ _ (_ :: _) _ _ _; first | refine TL.sa ?_ | (refine TL.na ?_; intro _)) | (first | refine Stp.h ?_ | refine Post.then_normal ?_ | refine Post.next ?_ | refine Post.block_other rfl ?_) | (show TT _ _ _ _ _ _ _ _ _; refine TT.sa ?_) | exact TTs.nil | refine TTs.cons ?_ ?_ | (show T1 _ _ _ _ _ _ _ _ _ _; first | refine T1.sa ?_ | (refine T1.na ?_; intro _)) | (show TC _ _ _ _ _ _ _ _ _ _; first | refine TC.goa ?_ | refine TC.fina ?_) | refine Tri.ca ?_))
      refine T1.call rfl rfl rfl rfl (minus_ok (by omega) hb) ?_
      rintro _ _ ⟨p, cap, rfl, rfl⟩
      (repeat' (first | (show TL _ _ _ _ (_ :: _) _ _ _; first | refine TL.sa ?_ | (refine TL.na ?_; intro _)) | (first | refine Stp.h ?_ | refine Post.then_normal ?_ | refine Post.next ?_ | refine Post.block_other rfl ?_) | (show TT _ _ _ _ _ _ _ _ _; refine TT.sa ?_) | exact TTs.nil | refine TTs.cons ?_ ?_ | (show T1 _ _ _ _ _ _ _ _ _ _; first | refine T1.sa ?_ | (refine T1.na ?_; intro _)) | (show TC _ _ _ _ _ _ _ _ _ _; first | refine TC.goa ?_ | refine TC.fina ?_) | refine Tri.ca ?_))
      refine T1.call rfl rfl rfl rfl (signed_ok (n := y.natAbs - x.natAbs)) ?_
      rintro _ _ ⟨rfl, rfl⟩
      (repeat' (first | (show TL _ _ _ _ (_ :: _) _ _ _; first | refine TL.sa ?_ | (refine TL.na ?_; intro _)) | (first | refine Stp.h ?_ | refine Post.then_normal ?_ | refine Post.next ?_ | refine Post.block_other rfl ?_) | (show TT _ _ _ _ _ _ _ _ _; refine TT.sa ?_) | exact TTs.nil | refine TTs.cons ?_ ?_ | (show T1 _ _ _ _ _ _ _ _ _ _; first | refine T1.sa ?_ | (refine T1.na ?_; intro _)) | (show TC _ _ _ _ _ _ _ _ _ _; first | refine TC.goa ?_ | refine TC.fina ?_) | refine Tri.ca ?_))
      (refine Post.ra ?_)
      exact ⟨_, sgnR_of e1 e2, by (exact Ents.au)⟩
    · have hlt : ¬ x.natAbs < y.natAbs := fun h => hc (cmp_lt.2 h)
      have e1 : (x + y).natAbs = x.natAbs - y.natAbs := by omega
      have e2 : decide (x + y < 0) = (decide (x < 0) && decide (x.natAbs - y.natAbs ≠ 0)) := by
        by_cases h2 : x < 0
        · simp only [h2, decide_true, Bool.true_and]; rw [Bool.eq_iff_iff, decide_eq_true_eq, decide_eq_true_eq]; omega
        · simp only [h2, decide_false, Bool.false_and]; rw [decide_eq_false_iff_not]; omega
      (repeat' (first | (show TL _ _ _ _ (_ :: _) _ _ _; first | refine TL.sa ?_ | (refine TL.na ?_; intro _)) | (first | refine Stp.h ?_ | refine Post.then_normal ?_ | refine Post.next ?_ | refine Post.block_other rfl ?_) | (show TT _ _ _ _ _ _ _ _ _; refine TT.sa ?_) | exact TTs.nil | refine TTs.cons ?_ ?_ | (show T1 _ _ _ _ _ _ _ _ _ _; first | refine T1.sa ?_ | (refine T1.na ?_; intro _)) | (show TC _ _ _ _ _ _ _ _ _ _; first | refine TC.goa ?_ | refine TC.fina ?_) | refine Tri.ca ?_))
      refine Tri.dr (.take 0 (.take 1 (.take 2 (.take 3 (.take 5 (.take 6 (.all [(4, .all [(7, .all [(8, .done)])])]))))))) ?_
      (repeat' (first | (show TL _ _ _ _ (_ :: _) _ _ _; first | refine TL.sa ?_ | (refine TL.na ?_; intro _)) | (first | refine Stp.h ?_ | refine Post.then_normal ?_ | refine Post.next ?_ | refine Post.block_other rfl ?_) | (show TT _ _ _ _ _ _ _ _ _; refine TT.sa ?_) | exact TTs.nil | refine TTs.cons ?_ ?_ | (show T1 _ _ _ _ _ _ _ _ _ _; first | refine T1.sa ?_ | (refine T1.na ?_; intro _)) | (show TC _ _ _ _ _ _ _ _ _ _; first | refine TC.goa ?_ | refine TC.fina ?_) | refine Tri.ca ?_))
      refine T1.call rfl rfl rfl rfl (minus_ok (by omega) ha) ?_
      rintro _ _ ⟨p, cap, rfl, rfl⟩
      (repeat' (first | (show TL _ _ _ _ (_ :: _) _ _ _; first | refine TL.sa ?_ | (refine TL.na ?_; intro _)) | (first | refine Stp.h ?_ | refine Post.then_normal ?_ | refine Post.next ?_ | refine Post.block_other rfl ?_) | (show TT _ _ _ _ _ _ _ _ _; refine TT.sa ?_) | exact TTs.nil | refine TTs.cons ?_ ?_ | (show T1 _ _ _ _ _ _ _ _ _ _; first | refine T1.sa ?_ | (refine T1.na ?_; intro _)) | (show TC _ _ _ _ _ _ _ _ _ _; first | refine TC.goa ?_ | refine TC.fina ?_) | refine Tri.ca ?_))
      refine T1.call rfl rfl rfl rfl (signed_ok (n := x.natAbs - y.natAbs)) ?_
      rintro _ _ ⟨rfl, rfl⟩
      (repeat' (first | (show TL _ _ _ _ (_ :: _) _ _ _; first | refine TL.sa ?_ | (refine TL.na ?_; intro _)) | (first | refine Stp.h ?_ | refine Post.then_normal ?_ | refine Post.next ?_ | refine Post.block_other rfl ?_) | (show TT _ _ _ _ _ _ _ _ _; refine TT.sa ?_) | exact TTs.nil | refine TTs.cons ?_ ?_ | (show T1 _ _ _ _ _ _ _ _ _ _; first | refine T1.sa ?_ | (refine T1.na ?_; intro _)) | (show TC _ _ _ _ _ _ _ _ _ _; first | refine TC.goa ?_ | refine TC.fina ?_) | refine Tri.ca ?_))
      (refine Post.ra ?_)
      exact ⟨_, sgnR_of e1 e2, by (exact Ents.au)⟩
theorem scaled_ok {v o : Value} {x : Int} {m : Nat} [hf : RdIn As v Nat (cN .u32) (mag x.natAbs)] [hg : RdIn As o Nat (cN .u32) (mag m)] (ha : (mag x.natAbs).length ≤ 100000000) (hb : (mag m).length ≤ 100000000) :
    CallsS Tryz.prog w0 139 [.agg #[v, .bool (decide (x < 0))], o] As (SgnR As (x * (m : Int))) := by
  refine CallsS.rdSl v fun pv cv hv => CallsS.rdSl o fun po co ho => ?_
  subst hv ho
  have e1 : (x * (m : Int)).natAbs = x.natAbs * m := by rw [Int.natAbs_mul, Int.natAbs_natCast]
  refine CallsS.of_tri Tryz.func139 rfl Tryz.ntmps139 rfl ?_
  (repeat' (first | (show TL _ _ _ _ (_ :: _) _ _ _; first | refine TL.sa ?_ | (refine TL.na ?_; intro _)) | (first | refine Stp.h ?_ | refine Post.then_normal ?_ | refine Post.next ?_ | refine Post.block_other rfl ?_) | (show TT _ _ _ _ _ _ _ _ _; refine TT.sa ?_) | exact TTs.nil | refine TTs.cons ?_ ?_ | (show T1 _ _ _ _ _ _ _ _ _ _; first | refine T1.sa ?_ | (refine T1.na ?_; intro _)) | (show TC _ _ _ _ _ _ _ _ _ _; first | refine TC.goa ?_ | refine TC.fina ?_) | refine Tri.ca ?_))
  refine Tri.dr (.take 0 (.take 1 (.take 2 (.take 4 (.take 5 (.all [(3, .all [(6, .all [(7, .done)])])])))))) ?_
  (repeat' (first | (show TL _ _ _ _ (_ :: _) _ _ _; first | refine TL.sa ?_ | (refine TL.na ?_; intro _)) | (first | refine Stp.h ?_ | refine Post.then_normal ?_ | refine Post.next ?_ | refine Post.block_other rfl ?_) | (show TT _ _ _ _ _ _ _ _ _; refine TT.sa ?_) | exact TTs.nil | refine TTs.cons ?_ ?_ | (show T1 _ _ _ _ _ _ _ _ _ _; first | refine T1.sa ?_ | (refine T1.na ?_; intro _)) | (show TC _ _ _ _ _ _ _ _ _ _; first | refine TC.goa ?_ | refine TC.fina ?_) | refine Tri.ca ?_))
  refine T1.call rfl rfl rfl rfl (times_ok (a := x.natAbs) (b := m) ha hb) ?_
  rintro _ _ ⟨p, cap, rfl, rfl⟩
  (repeat' (first | (show TL _ _ _ _ (_ :: _) _ _ _; first | refine TL.sa ?_ | (refine TL.na ?_; intro _)) | (first | refine Stp.h ?_ | refine Post.then_normal ?_ | refine Post.next ?_ | refine Post.block_other rfl ?_) | (show TT _ _ _ _ _ _ _ _ _; refine TT.sa ?_) | exact TTs.nil | refine TTs.cons ?_ ?_ | (show T1 _ _ _ _ _ _ _ _ _ _; first | refine T1.sa ?_ | (refine T1.na ?_; intro _)) | (show TC _ _ _ _ _ _ _ _ _ _; first | refine TC.goa ?_ | refine TC.fina ?_) | refine Tri.ca ?_))
  refine T1.call rfl rfl rfl rfl (signed_ok (n := x.natAbs * m)) ?_
  rintro _ _ ⟨rfl, rfl⟩
  (repeat' (first | (show TL _ _ _ _ (_ :: _) _ _ _; first | refine TL.sa ?_ | (refine TL.na ?_; intro _)) | (first | refine Stp.h ?_ | refine Post.then_normal ?_ | refine Post.next ?_ | refine Post.block_other rfl ?_) | (show TT _ _ _ _ _ _ _ _ _; refine TT.sa ?_) | exact TTs.nil | refine TTs.cons ?_ ?_ | (show T1 _ _ _ _ _ _ _ _ _ _; first | refine T1.sa ?_ | (refine T1.na ?_; intro _)) | (show TC _ _ _ _ _ _ _ _ _ _; first | refine TC.goa ?_ | refine TC.fina ?_) | refine Tri.ca ?_))
  (refine Post.ra ?_)
  exact ⟨_, sgnR_of e1 scaled_sign, by (exact Ents.au)⟩
theorem floor_ok {v o : Value} {x : Int} {d : Nat} [hf : FtIn As v Nat (cN .u32) (mag x.natAbs)] [hg : RdIn As o Nat (cN .u32) (mag d)] (hd : d ≠ 0) (ha : (mag x.natAbs).length ≤ 10000000) (hb : (mag d).length ≤ 10000000) :
    CallsS Tryz.prog w0 89 [.agg #[v, .bool (decide (x < 0))], o] As (SgnR As (x / (d : Int))) := by
  refine CallsS.rdSl v fun pv cv hv => CallsS.rdSl o fun po co ho => ?_
  subst hv ho
  obtain ⟨e1, e2⟩ := floor_abs (x := x) hd
  have hlq : (mag (x.natAbs / d)).length ≤ 10000000 := Nat.le_trans (mag_len_le (Nat.div_le_self _ _)) ha
  refine CallsS.of_tri Tryz.func89 rfl Tryz.ntmps89 rfl ?_
  (repeat' (first | (show TL _ _ _ _ (_ :: _) _ _ _; first | refine TL.sa ?_ | (refine TL.na ?_; intro _)) | (first | refine Stp.h ?_ | refine Post.then_normal ?_ | refine Post.next ?_ | refine Post.block_other rfl ?_) | (show TT _ _ _ _ _ _ _ _ _; refine TT.sa ?_) | exact TTs.nil | refine TTs.cons ?_ ?_ | (show T1 _ _ _ _ _ _ _ _ _ _; first | refine T1.sa ?_ | (refine T1.na ?_; intro _)) | (show TC _ _ _ _ _ _ _ _ _ _; first | refine TC.goa ?_ | refine TC.fina ?_) | refine Tri.ca ?_))
  refine TL.call rfl rfl rfl (divide_ok (a := x.natAbs) (b := d) hd ha (by omega)) ?_
  rintro _ _ ⟨p, cap, p', cap', rfl, rfl⟩
  by_cases hx : x < 0
  · by_cases hr : x.natAbs % d = 0
    · rw [if_neg (by omega)] at e1 e2
      (repeat' (first | (show TL _ _ _ _ (_ :: _) _ _ _; first | refine TL.sa ?_ | (refine TL.na ?_; intro _)) | (first | refine Stp.h ?_ | refine Post.then_normal ?_ | refine Post.next ?_ | refine Post.block_other rfl ?_) | (show TT _ _ _ _ _ _ _ _ _; refine TT.sa ?_) | exact TTs.nil | refine TTs.cons ?_ ?_ | (show T1 _ _ _ _ _ _ _ _ _ _; first | refine T1.sa ?_ | (refine T1.na ?_; intro _)) | (show TC _ _ _ _ _ _ _ _ _ _; first | refine TC.goa ?_ | refine TC.fina ?_) | refine Tri.ca ?_))
      refine TL.callv rfl rfl rfl rfl (zero_ok (v := .slice p' (mag (x.natAbs % d)).length cap') (n := x.natAbs % d)) ?_
      rintro _ _ ⟨rfl, rfl⟩
      (repeat' (first | (show TL _ _ _ _ (_ :: _) _ _ _; first | refine TL.sa ?_ | (refine TL.na ?_; intro _)) | (first | refine Stp.h ?_ | refine Post.then_normal ?_ | refine Post.next ?_ | refine Post.block_other rfl ?_) | refine Tri.ca ?_))
      refine TL.callv rfl rfl rfl rfl (signed_ok (v := .slice p (mag (x.natAbs / d)).length cap) (n := x.natAbs / d)) ?_
      rintro _ _ ⟨rfl, rfl⟩
      (repeat' (first | (show TL _ _ _ _ (_ :: _) _ _ _; first | refine TL.sa ?_ | (refine TL.na ?_; intro _)) | (first | refine Stp.h ?_ | refine Post.then_normal ?_ | refine Post.next ?_ | refine Post.block_other rfl ?_) | refine Tri.ca ?_))
      (refine Post.ra ?_)
      refine ⟨_, sgnR_of (p := p) (cap := cap) e1 e2, by (exact Ents.au)⟩
    · rw [if_pos ⟨hx, hr⟩] at e1 e2
      have hm1 : mag 1 = [1] := mag_single (by omega) (by omega)
      (repeat' (first | (show TL _ _ _ _ (_ :: _) _ _ _; first | refine TL.sa ?_ | (refine TL.na ?_; intro _)) | (first | refine Stp.h ?_ | refine Post.then_normal ?_ | refine Post.next ?_ | refine Post.block_other rfl ?_) | refine Tri.ca ?_))
      refine TL.callv rfl rfl rfl rfl (zero_ok (v := .slice p' (mag (x.natAbs % d)).length cap') (n := x.natAbs % d)) ?_
      rintro _ _ ⟨rfl, rfl⟩
      (repeat' (first | (show TL _ _ _ _ (_ :: _) _ _ _; first | refine TL.sa ?_ | (refine TL.na ?_; intro _)) | (first | refine Stp.h ?_ | refine Post.then_normal ?_ | refine Post.next ?_ | refine Post.block_other rfl ?_) | refine Tri.ca ?_))
      refine TL.ents (Ents.clW (cN .u32) (mag 1) (by rw [hm1]; rfl) (by rw [hm1]) (by rw [hm1])) ?_
      refine TL.callv rfl rfl rfl rfl (plus_ok (v := .slice p (mag (x.natAbs / d)).length cap) (a := x.natAbs / d) (b := 1) (by omega) (by rw [hm1]; simp)) ?_
      rintro _ _ ⟨p4, cap4, rfl, rfl⟩
      (repeat' (first | (show TL _ _ _ _ (_ :: _) _ _ _; first | refine TL.sa ?_ | (refine TL.na ?_; intro _)) | (first | refine Stp.h ?_ | refine Post.then_normal ?_ | refine Post.next ?_ | refine Post.block_other rfl ?_) | refine Tri.ca ?_))
      refine TL.callv rfl rfl rfl rfl (signed_ok (v := .slice p4 (mag (x.natAbs / d + 1)).length cap4) (n := x.natAbs / d + 1)) ?_
      rintro _ _ ⟨rfl, rfl⟩
      (repeat' (first | (show TL _ _ _ _ (_ :: _) _ _ _; first | refine TL.sa ?_ | (refine TL.na ?_; intro _)) | (first | refine Stp.h ?_ | refine Post.then_normal ?_ | refine Post.next ?_ | refine Post.block_other rfl ?_) | refine Tri.ca ?_))
      (refine Post.ra ?_)
      refine ⟨_, sgnR_of (p := p4) (cap := cap4) e1 e2, by (exact Ents.au)⟩
  · rw [if_neg (by omega)] at e1 e2
    (repeat' (first | (show TL _ _ _ _ (_ :: _) _ _ _; first | refine TL.sa ?_ | (refine TL.na ?_; intro _)) | (first | refine Stp.h ?_ | refine Post.then_normal ?_ | refine Post.next ?_ | refine Post.block_other rfl ?_) | refine Tri.ca ?_))
    refine TL.callv rfl rfl rfl rfl (signed_ok (v := .slice p (mag (x.natAbs / d)).length cap) (n := x.natAbs / d)) ?_
    rintro _ _ ⟨rfl, rfl⟩
    (repeat' (first | (show TL _ _ _ _ (_ :: _) _ _ _; first | refine TL.sa ?_ | (refine TL.na ?_; intro _)) | (first | refine Stp.h ?_ | refine Post.then_normal ?_ | refine Post.next ?_ | refine Post.block_other rfl ?_) | refine Tri.ca ?_))
    (refine Post.ra ?_)
    refine ⟨_, sgnR_of (p := p) (cap := cap) e1 e2, by (exact Ents.au)⟩
end Go.Proofs.YtldljckhfcoafaaGreatDoor.Q
