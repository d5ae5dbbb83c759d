/- Walks: the reference on whole numbers: quotients and divisors with signs. -/
import Derived.Test.YtldljckhfcoafaaGreatDoorVb5
import Derived.Test.YtldljckhfcoafaaGreatDoorLa1
namespace Go.Sx
open Go
/-- quotient and remainder cut towards zero, and what they lack -/
theorem parts_signs {x y : Int} (hy : y ≠ 0) : ∃ X Y : Int, X.natAbs = x.natAbs / y.natAbs ∧ decide (X < 0) = (!decide (decide (x < 0) = decide (y < 0)) && decide (x.natAbs / y.natAbs ≠ 0)) ∧
    Y.natAbs = x.natAbs % y.natAbs ∧ decide (Y < 0) = (decide (x < 0) && decide (x.natAbs % y.natAbs ≠ 0)) ∧
    ((Y < 0 ∧ x % y = Y + (y.natAbs : Int) ∧ (y < 0 → x / y = X + 1) ∧ (¬ y < 0 → x / y = X - 1)) ∨ (¬ Y < 0 ∧ x / y = X ∧ x % y = Y)) := by
  have hl := Nat.mod_lt x.natAbs (show 0 < y.natAbs by omega)
  refine ⟨if decide (x < 0) = decide (y < 0) then ((x.natAbs / y.natAbs : Nat) : Int) else -((x.natAbs / y.natAbs : Nat) : Int), if x < 0 then -((x.natAbs % y.natAbs : Nat) : Int) else ((x.natAbs % y.natAbs : Nat) : Int), ?_, ?_, ?_, ?_, ?_⟩
  · split <;> simp only [Int.natAbs_neg, Int.natAbs_natCast]
  · generalize x.natAbs / y.natAbs = Q
    rw [Bool.eq_iff_iff, decide_eq_true_eq]
    simp only [Bool.and_eq_true, Bool.not_eq_true', decide_eq_false_iff_not, decide_eq_true_eq]
    by_cases h1 : x < 0 <;> by_cases h2 : y < 0 <;> simp [h1, h2] <;> omega
  · split <;> simp only [Int.natAbs_neg, Int.natAbs_natCast]
  · generalize x.natAbs % y.natAbs = R
    rw [Bool.eq_iff_iff, decide_eq_true_eq]
    simp only [Bool.and_eq_true, decide_eq_true_eq]
    by_cases h1 : x < 0 <;> simp [h1] <;> omega
  · by_cases h : x < 0 ∧ x.natAbs % y.natAbs ≠ 0
    · obtain ⟨e1, e2⟩ := div_next_one hy h.1 h.2
      refine .inl ⟨?_, ?_, ?_, ?_⟩
      · rw [if_pos h.1]; omega
      · rw [e2, if_pos h.1]; omega
      · intro h2
        rw [e1, if_pos h2, if_pos (by simp [h.1, h2])]; omega
      · intro h2
        rw [e1, if_neg h2, if_neg (by simp [h.1, h2])]; omega
    · obtain ⟨e1, e2⟩ := div_same hy h
      refine .inr ⟨?_, ?_, ?_⟩
      · split <;> omega
      · rw [e1]
        by_cases h1 : x < 0 <;> by_cases h2 : y < 0 <;> simp [h1, h2]
      · rw [e2]
        split <;> omega
end Go.Sx
namespace Go.Proofs.YtldljckhfcoafaaGreatDoor
open Go Go.Sx
variable {w0 : World} {As : List Ent}
def DivP (As : List Ent) (q r : Int) (u : Value) (Bs : List Ent) : Prop := ∃ p cap p' cap', u = .tuple #[.agg #[.bool (decide (q < 0)), .slice p (qud q.natAbs).length cap], .agg #[.bool (decide (r < 0)), .slice p' (qud r.natAbs).length cap']] ∧ Bs = .ft (rd (cN .i64) (.slice p (qud q.natAbs).length cap) (qud q.natAbs)) :: .ft (rd (cN .i64) (.slice p' (qud r.natAbs).length cap') (qud r.natAbs)) :: As
theorem plusN_ok {v o : Value} {x : Int} {n : Nat} [hf : RdIn As v Nat (cN .i64) (qud x.natAbs)] [hg : RdIn As o Nat (cN .i64) (qud n)] (ha : (qud x.natAbs).length ≤ 10000000) (hb : (qud n).length ≤ 10000000) :
    CallsS Tryz.prog w0 115 [.agg #[.bool (decide (x < 0)), v], .agg #[.bool false, o]] As (PlainR As (x + (n : Int))) := by
  haveI hg' : RdIn As o Nat (cN .i64) (qud (n : Int).natAbs) := hg
  have h := plusR_ok (w0 := w0) (As := As) (v := v) (o := o) (x := x) (y := (n : Int)) ha hb
  rw [show decide ((n : Int) < 0) = false by rw [decide_eq_false_iff_not]; omega] at h
  exact h
theorem partsP_ok {v o : Value} {x y : Int} [hf : RdIn As v Nat (cN .i64) (qud x.natAbs)] [hg : RdIn As o Nat (cN .i64) (qud y.natAbs)] (hy : y ≠ 0) (ha : (qud x.natAbs).length ≤ 10000) (hb : (qud y.natAbs).length ≤ 10000) :
    CallsS Tryz.prog w0 63 [.agg #[.bool (decide (x < 0)), v], .agg #[.bool (decide (y < 0)), o]] As (DivP As (x / y) (x % y)) := by
  refine CallsS.rdSl v fun pv cv hv => CallsS.rdSl o fun po co ho => ?_
  subst hv ho
  obtain ⟨X, Y, hX1, hX2, hY1, hY2, hXY⟩ := parts_signs (x := x) hy
  have l1 := qud_len_le (Nat.div_le_self x.natAbs y.natAbs)
  have l2 := qud_len_le (Nat.mod_le x.natAbs y.natAbs)
  refine CallsS.of_tri Tryz.func63 rfl Tryz.ntmps63 rfl ?_
  (repeat' (first | (show TL _ _ _ _ (_ :: _) _ _ _; first | refine TL.sa ?_ | (refine TL.na ?_; intro _)) | (first | refine Stp.h ?_ | refine Post.then_normal ?_ | refine Post.next ?_ | refine Post.block_other rfl ?_) | refine Tri.ca ?_))
  refine TL.call rfl rfl rfl (partsR_ok (a := x.natAbs) (b := y.natAbs) (by omega) (by omega) (by omega)) ?_
  rintro _ _ ⟨p, cap, p', cap', rfl, rfl⟩
  (repeat' (first | (show TL _ _ _ _ (_ :: _) _ _ _; first | refine TL.sa ?_ | (refine TL.na ?_; intro _)) | (first | refine Stp.h ?_ | refine Post.then_normal ?_ | refine Post.next ?_ | refine Post.block_other rfl ?_) | refine Tri.ca ?_))
  rename_i b2 b3 b4 b5
  refine Tri.mid (fun e' As' => ∃ b8 b9 p2 cap2 p3 cap3, e' = [(2, .pointer (some ⟨b2, 0, none⟩)), (3, .pointer (some ⟨b3, 0, none⟩)), (4, .pointer (some ⟨b4, 0, none⟩)), (5, .pointer (some ⟨b5, 0, none⟩)), (8, .pointer (some ⟨b8, 0, none⟩)), (9, .pointer (some ⟨b9, 0, none⟩))] ∧
    As' = .cl b8 [.bool (decide (X < 0)), .slice p2 (qud X.natAbs).length cap2] 87 :: .cl b9 [.bool (decide (Y < 0)), .slice p3 (qud Y.natAbs).length cap3] 87 :: .ft (rd (cN .i64) (.slice p2 (qud X.natAbs).length cap2) (qud X.natAbs)) :: .ft (rd (cN .i64) (.slice p3 (qud Y.natAbs).length cap3) (qud Y.natAbs)) ::
      .cl b5 [.bool false, .slice none 0 0] 87 :: .cl b4 [.bool false, .slice none 0 0] 87 :: .cl b3 [.bool (decide (y < 0)), .slice po (qud y.natAbs).length co] 87 :: .cl b2 [.bool (decide (x < 0)), .slice pv (qud x.natAbs).length cv] 87 :: As) ?_ ?_
  · refine Tri.dr (.take 0 (.take 1 (.take 2 (.take 3 (.take 4 (.take 5 (.take 7 (.take 8 (.take 9 (.all [(6, .all [(10, .all [(11, .all [(12, .all [(13, .all [(14, .done)])])]), (12, .all [(11, .all [(13, .all [(14, .done)])])])]), (11, .all [(10, .all [(12, .all [(13, .all [(14, .done)])])]), (12, .all [(10, .all [(13, .all [(14, .done)])])])]), (12, .all [(10, .all [(11, .all [(13, .all [(14, .done)])])]), (11, .all [(10, .all [(13, .all [(14, .done)])])])])]), (11, .all [(6, .all [(10, .all [(12, .all [(13, .all [(14, .done)])])]), (12, .all [(10, .all [(13, .all [(14, .done)])])])]), (12, .all [(6, .all [(10, .all [(13, .all [(14, .done)])])])])]), (12, .all [(6, .all [(10, .all [(11, .all [(13, .all [(14, .done)])])]), (11, .all [(10, .all [(13, .all [(14, .done)])])])]), (11, .all [(6, .all [(10, .all [(13, .all [(14, .done)])])])])])])))))))))) ?_
    (repeat' (first | (show TL _ _ _ _ (_ :: _) _ _ _; first | refine TL.sa ?_ | (refine TL.na ?_; intro _)) | (first | refine Stp.h ?_ | refine Post.then_normal ?_ | refine Post.next ?_ | refine Post.block_other rfl ?_) | (show TT _ _ _ _ _ _ _ _ _; refine TT.sa ?_) | exact TTs.nil | refine TTs.cons ?_ ?_ | (show T1 _ _ _ _ _ _ _ _ _ _; first | refine T1.sa ?_ | (refine T1.na ?_; intro _)) | (show TC _ _ _ _ _ _ _ _ _ _; first | refine TC.goa ?_ | refine TC.fina ?_) | refine Tri.ca ?_))
    all_goals (refine T1.callv rfl rfl rfl rfl rfl (made_ok (v := .slice p (qud (x.natAbs / y.natAbs)).length cap) (xs := qud (x.natAbs / y.natAbs)) (z := X) (qud_small _) (by omega) (by rw [valQ_qud]; exact hX1) (by rw [valQ_qud]; exact hX2)) ?_
               rintro _ _ ⟨p2, cap2, rfl, rfl⟩
               (repeat' (first | (show TL _ _ _ _ (_ :: _) _ _ _; first | refine TL.sa ?_ | (refine TL.na ?_; intro _)) | (first | refine Stp.h ?_ | refine Post.then_normal ?_ | refine Post.next ?_ | refine Post.block_other rfl ?_) | (show TT _ _ _ _ _ _ _ _ _; refine TT.sa ?_) | exact TTs.nil | refine TTs.cons ?_ ?_ | (show T1 _ _ _ _ _ _ _ _ _ _; first | refine T1.sa ?_ | (refine T1.na ?_; intro _)) | (show TC _ _ _ _ _ _ _ _ _ _; first | refine TC.goa ?_ | refine TC.fina ?_) | refine Tri.ca ?_)))
    all_goals (refine T1.callv rfl rfl rfl rfl rfl (made_ok (v := .slice p' (qud (x.natAbs % y.natAbs)).length cap') (xs := qud (x.natAbs % y.natAbs)) (z := Y) (qud_small _) (by omega) (by rw [valQ_qud]; exact hY1) (by rw [valQ_qud]; exact hY2)) ?_
               rintro _ _ ⟨p3, cap3, rfl, rfl⟩
               (repeat' (first | (show TL _ _ _ _ (_ :: _) _ _ _; first | refine TL.sa ?_ | (refine TL.na ?_; intro _)) | (first | refine Stp.h ?_ | refine Post.then_normal ?_ | refine Post.next ?_ | refine Post.block_other rfl ?_) | (show TT _ _ _ _ _ _ _ _ _; refine TT.sa ?_) | exact TTs.nil | refine TTs.cons ?_ ?_ | (show T1 _ _ _ _ _ _ _ _ _ _; first | refine T1.sa ?_ | (refine T1.na ?_; intro _)) | (show TC _ _ _ _ _ _ _ _ _ _; first | refine TC.goa ?_ | refine TC.fina ?_) | refine Tri.ca ?_)))
    all_goals exact Post.cut _ _ ⟨_, _, p2, cap2, p3, cap3, rfl, rfl⟩ (by (exact Sub.au)) (by (exact Ents.au))
  rintro _ _ ⟨b8, b9, p2, cap2, p3, cap3, rfl, rfl⟩
  (repeat' (first | (show TL _ _ _ _ (_ :: _) _ _ _; first | refine TL.sa ?_ | (refine TL.na ?_; intro _)) | (first | refine Stp.h ?_ | refine Post.then_normal ?_ | refine Post.next ?_ | refine Post.block_other rfl ?_) | (show TT _ _ _ _ _ _ _ _ _; refine TT.sa ?_) | exact TTs.nil | refine TTs.cons ?_ ?_ | (show T1 _ _ _ _ _ _ _ _ _ _; first | refine T1.sa ?_ | (refine T1.na ?_; intro _)) | (show TC _ _ _ _ _ _ _ _ _ _; first | refine TC.goa ?_ | refine TC.fina ?_) | refine Tri.ca ?_))
  have hq1 : (qud (1 : Int).natAbs).length ≤ 1 := qud_len_lt (by decide)
  have l3 : (qud Y.natAbs).length ≤ 10000 := by rw [hY1]; omega
  have l4 : (qud X.natAbs).length ≤ 10000 := by rw [hX1]; omega
  refine Tri.mid (fun e' As' => ∃ p4 cap4 p5 cap5, e' = [(4, .pointer (some ⟨b4, 0, none⟩)), (5, .pointer (some ⟨b5, 0, none⟩)), (8, .pointer (some ⟨b8, 0, none⟩)), (9, .pointer (some ⟨b9, 0, none⟩))] ∧
    As' = .cl b8 [.bool (decide (x / y < 0)), .slice p4 (qud (x / y).natAbs).length cap4] 87 :: .cl b9 [.bool (decide (x % y < 0)), .slice p5 (qud (x % y).natAbs).length cap5] 87 :: .ft (rd (cN .i64) (.slice p4 (qud (x / y).natAbs).length cap4) (qud (x / y).natAbs)) :: .ft (rd (cN .i64) (.slice p5 (qud (x % y).natAbs).length cap5) (qud (x % y).natAbs)) ::
      .cl b5 [.bool false, .slice none 0 0] 87 :: .cl b4 [.bool false, .slice none 0 0] 87 :: As) ?_ ?_
  · rcases hXY with ⟨h0, e1, e2, e3⟩ | ⟨h0, e1, e2⟩
    · (repeat' (first | (show TL _ _ _ _ (_ :: _) _ _ _; first | refine TL.sa ?_ | (refine TL.na ?_; intro _)) | (first | refine Stp.h ?_ | refine Post.then_normal ?_ | refine Post.next ?_ | refine Post.block_other rfl ?_) | (show TT _ _ _ _ _ _ _ _ _; refine TT.sa ?_) | exact TTs.nil | refine TTs.cons ?_ ?_ | (show T1 _ _ _ _ _ _ _ _ _ _; first | refine T1.sa ?_ | (refine T1.na ?_; intro _)) | (show TC _ _ _ _ _ _ _ _ _ _; first | refine TC.goa ?_ | refine TC.fina ?_) | refine Tri.ca ?_))
      refine TL.f rfl rfl (ExF.build (l := [.bool false, .slice po (qud y.natAbs).length co]) rfl (fun w => by kernel_rfl)) ?_
      (repeat' (first | (show TL _ _ _ _ (_ :: _) _ _ _; first | refine TL.sa ?_ | (refine TL.na ?_; intro _)) | (first | refine Stp.h ?_ | refine Post.then_normal ?_ | refine Post.next ?_ | refine Post.block_other rfl ?_) | (show TT _ _ _ _ _ _ _ _ _; refine TT.sa ?_) | exact TTs.nil | refine TTs.cons ?_ ?_ | (show T1 _ _ _ _ _ _ _ _ _ _; first | refine T1.sa ?_ | (refine T1.na ?_; intro _)) | (show TC _ _ _ _ _ _ _ _ _ _; first | refine TC.goa ?_ | refine TC.fina ?_) | refine Tri.ca ?_))
      refine TL.call rfl rfl rfl (plusN_ok (x := Y) (n := y.natAbs) (by omega) (by omega)) ?_
      rintro _ _ ⟨p5, cap5, rfl, rfl⟩
      rw [← e1]
      (repeat' (first | (show TL _ _ _ _ (_ :: _) _ _ _; first | refine TL.sa ?_ | (refine TL.na ?_; intro _)) | (first | refine Stp.h ?_ | refine Post.then_normal ?_ | refine Post.next ?_ | refine Post.block_other rfl ?_) | (show TT _ _ _ _ _ _ _ _ _; refine TT.sa ?_) | exact TTs.nil | refine TTs.cons ?_ ?_ | (show T1 _ _ _ _ _ _ _ _ _ _; first | refine T1.sa ?_ | (refine T1.na ?_; intro _)) | (show TC _ _ _ _ _ _ _ _ _ _; first | refine TC.goa ?_ | refine TC.fina ?_) | refine Tri.ca ?_))
      by_cases hy0 : y < 0
      · rw [e2 hy0]
        (repeat' (first | (show TL _ _ _ _ (_ :: _) _ _ _; first | refine TL.sa ?_ | (refine TL.na ?_; intro _)) | (first | refine Stp.h ?_ | refine Post.then_normal ?_ | refine Post.next ?_ | refine Post.block_other rfl ?_) | (show TT _ _ _ _ _ _ _ _ _; refine TT.sa ?_) | exact TTs.nil | refine TTs.cons ?_ ?_ | (show T1 _ _ _ _ _ _ _ _ _ _; first | refine T1.sa ?_ | (refine T1.na ?_; intro _)) | (show TC _ _ _ _ _ _ _ _ _ _; first | refine TC.goa ?_ | refine TC.fina ?_) | refine Tri.ca ?_))
        refine Tri.dr (.take 0 (.all [(1, .all [(2, .all [(3, .done)])])])) ?_
        (repeat' (first | (show TL _ _ _ _ (_ :: _) _ _ _; first | refine TL.sa ?_ | (refine TL.na ?_; intro _)) | (first | refine Stp.h ?_ | refine Post.then_normal ?_ | refine Post.next ?_ | refine Post.block_other rfl ?_) | (show TT _ _ _ _ _ _ _ _ _; refine TT.sa ?_) | exact TTs.nil | refine TTs.cons ?_ ?_ | (show T1 _ _ _ _ _ _ _ _ _ _; first | refine T1.sa ?_ | (refine T1.na ?_; intro _)) | (show TC _ _ _ _ _ _ _ _ _ _; first | refine TC.goa ?_ | refine TC.fina ?_) | refine Tri.ca ?_))
        refine T1.call rfl rfl rfl rfl (integerR_ok (n := 1) (by omega) (by omega)) ?_
        rintro _ _ ⟨p6, cap6, rfl, rfl⟩
        (repeat' (first | (show TL _ _ _ _ (_ :: _) _ _ _; first | refine TL.sa ?_ | (refine TL.na ?_; intro _)) | (first | refine Stp.h ?_ | refine Post.then_normal ?_ | refine Post.next ?_ | refine Post.block_other rfl ?_) | (show TT _ _ _ _ _ _ _ _ _; refine TT.sa ?_) | exact TTs.nil | refine TTs.cons ?_ ?_ | (show T1 _ _ _ _ _ _ _ _ _ _; first | refine T1.sa ?_ | (refine T1.na ?_; intro _)) | (show TC _ _ _ _ _ _ _ _ _ _; first | refine TC.goa ?_ | refine TC.fina ?_) | refine Tri.ca ?_))
        refine T1.call rfl rfl rfl rfl (plusR_ok (x := X) (y := 1) (by omega) (by omega)) ?_
        rintro _ _ ⟨p7, cap7, rfl, rfl⟩
        (repeat' (first | (show TL _ _ _ _ (_ :: _) _ _ _; first | refine TL.sa ?_ | (refine TL.na ?_; intro _)) | (first | refine Stp.h ?_ | refine Post.then_normal ?_ | refine Post.next ?_ | refine Post.block_other rfl ?_) | (show TT _ _ _ _ _ _ _ _ _; refine TT.sa ?_) | exact TTs.nil | refine TTs.cons ?_ ?_ | (show T1 _ _ _ _ _ _ _ _ _ _; first | refine T1.sa ?_ | (refine T1.na ?_; intro _)) | (show TC _ _ _ _ _ _ _ _ _ _; first | refine TC.goa ?_ | refine TC.fina ?_) | refine Tri.ca ?_))
        exact Post.cut _ _ ⟨p7, cap7, p5, cap5, rfl, rfl⟩ (by (exact Sub.au)) (by (exact Ents.au))
      · rw [e3 hy0]
        (repeat' (first | (show TL _ _ _ _ (_ :: _) _ _ _; first | refine TL.sa ?_ | (refine TL.na ?_; intro _)) | (first | refine Stp.h ?_ | refine Post.then_normal ?_ | refine Post.next ?_ | refine Post.block_other rfl ?_) | (show TT _ _ _ _ _ _ _ _ _; refine TT.sa ?_) | exact TTs.nil | refine TTs.cons ?_ ?_ | (show T1 _ _ _ _ _ _ _ _ _ _; first | refine T1.sa ?_ | (refine T1.na ?_; intro _)) | (show TC _ _ _ _ _ _ _ _ _ _; first | refine TC.goa ?_ | refine TC.fina ?_) | refine Tri.ca ?_))
        refine Tri.dr (.take 0 (.all [(1, .all [(2, .all [(3, .done)])])])) ?_
        (repeat' (first | (show TL _ _ _ _ (_ :: _) _ _ _; first | refine TL.sa ?_ | (refine TL.na ?_; intro _)) | (first | refine Stp.h ?_ | refine Post.then_normal ?_ | refine Post.next ?_ | refine Post.block_other rfl ?_) | (show TT _ _ _ _ _ _ _ _ _; refine TT.sa ?_) | exact TTs.nil | refine TTs.cons ?_ ?_ | (show T1 _ _ _ _ _ _ _ _ _ _; first | refine T1.sa ?_ | (refine T1.na ?_; intro _)) | (show TC _ _ _ _ _ _ _ _ _ _; first | refine TC.goa ?_ | refine TC.fina ?_) | refine Tri.ca ?_))
        refine T1.call rfl rfl rfl rfl (integerR_ok (n := 1) (by omega) (by omega)) ?_
        rintro _ _ ⟨p6, cap6, rfl, rfl⟩
        (repeat' (first | (show TL _ _ _ _ (_ :: _) _ _ _; first | refine TL.sa ?_ | (refine TL.na ?_; intro _)) | (first | refine Stp.h ?_ | refine Post.then_normal ?_ | refine Post.next ?_ | refine Post.block_other rfl ?_) | (show TT _ _ _ _ _ _ _ _ _; refine TT.sa ?_) | exact TTs.nil | refine TTs.cons ?_ ?_ | (show T1 _ _ _ _ _ _ _ _ _ _; first | refine T1.sa ?_ | (refine T1.na ?_; intro _)) | (show TC _ _ _ _ _ _ _ _ _ _; first | refine TC.goa ?_ | refine TC.fina ?_) | refine Tri.ca ?_))
        refine T1.call rfl rfl rfl rfl (minusR_ok (x := X) (y := 1) (by omega) (by omega)) ?_
        rintro _ _ ⟨p7, cap7, rfl, rfl⟩
        (repeat' (first | (show TL _ _ _ _ (_ :: _) _ _ _; first | refine TL.sa ?_ | (refine TL.na ?_; intro _)) | (first | refine Stp.h ?_ | refine Post.then_normal ?_ | refine Post.next ?_ | refine Post.block_other rfl ?_) | (show TT _ _ _ _ _ _ _ _ _; refine TT.sa ?_) | exact TTs.nil | refine TTs.cons ?_ ?_ | (show T1 _ _ _ _ _ _ _ _ _ _; first | refine T1.sa ?_ | (refine T1.na ?_; intro _)) | (show TC _ _ _ _ _ _ _ _ _ _; first | refine TC.goa ?_ | refine TC.fina ?_) | refine Tri.ca ?_))
        exact Post.cut _ _ ⟨p7, cap7, p5, cap5, rfl, rfl⟩ (by (exact Sub.au)) (by (exact Ents.au))
    · rw [e1, e2]
      (repeat' (first | (show TL _ _ _ _ (_ :: _) _ _ _; first | refine TL.sa ?_ | (refine TL.na ?_; intro _)) | (first | refine Stp.h ?_ | refine Post.then_normal ?_ | refine Post.next ?_ | refine Post.block_other rfl ?_) | (show TT _ _ _ _ _ _ _ _ _; refine TT.sa ?_) | exact TTs.nil | refine TTs.cons ?_ ?_ | (show T1 _ _ _ _ _ _ _ _ _ _; first | refine T1.sa ?_ | (refine T1.na ?_; intro _)) | (show TC _ _ _ _ _ _ _ _ _ _; first | refine TC.goa ?_ | refine TC.fina ?_) | refine Tri.ca ?_))
      exact Post.cut _ _ ⟨p2, cap2, p3, cap3, rfl, rfl⟩ (by (exact Sub.au)) (by (exact Ents.au))
  rintro _ _ ⟨p4, cap4, p5, cap5, rfl, rfl⟩
  (repeat' (first | (show TL _ _ _ _ (_ :: _) _ _ _; first | refine TL.sa ?_ | (refine TL.na ?_; intro _)) | (first | refine Stp.h ?_ | refine Post.then_normal ?_ | refine Post.next ?_ | refine Post.block_other rfl ?_) | (show TT _ _ _ _ _ _ _ _ _; refine TT.sa ?_) | exact TTs.nil | refine TTs.cons ?_ ?_ | (show T1 _ _ _ _ _ _ _ _ _ _; first | refine T1.sa ?_ | (refine T1.na ?_; intro _)) | (show TC _ _ _ _ _ _ _ _ _ _; first | refine TC.goa ?_ | refine TC.fina ?_) | refine Tri.ca ?_))
  refine Tri.dw [] [(0, .c b8), (1, .c b9)] (.take 0 (.take 1 (.all [(2, .all [(3, .done)])]))) ?_
  (repeat' (first | (show TL _ _ _ _ (_ :: _) _ _ _; first | refine TL.sa ?_ | (refine TL.na ?_; intro _)) | (first | refine Stp.h ?_ | refine Post.then_normal ?_ | refine Post.next ?_ | refine Post.block_other rfl ?_) | (show TT _ _ _ _ _ _ _ _ _; refine TT.sa ?_) | exact TTs.nil | refine TTs.cons ?_ ?_ | (show T1 _ _ _ _ _ _ _ _ _ _; first | refine T1.sa ?_ | (refine T1.na ?_; intro _)) | (show TC _ _ _ _ _ _ _ _ _ _; first | refine TC.goa ?_ | refine TC.fina ?_) | refine Tri.ca ?_))
  (refine Post.ra ?_)
  exact ⟨_, ⟨p4, cap4, p5, cap5, rfl, rfl⟩, by (exact Ents.au)⟩
theorem divisorR_ok {v o : Value} {x y : Int} [hf : FtIn As v Nat (cN .i64) (qud x.natAbs)] [hg : FtIn As o Nat (cN .i64) (qud y.natAbs)] (ha : (qud x.natAbs).length ≤ 10000) (hb : (qud y.natAbs).length ≤ 10000) :
    CallsS Tryz.prog w0 109 [.agg #[.bool (decide (x < 0)), v], .agg #[.bool (decide (y < 0)), o]] As (PlainR As (gcdI x y)) := by
  refine CallsS.rdSl v fun pv cv hv => CallsS.rdSl o fun po co ho => ?_
  subst hv ho
  refine CallsS.of_tri Tryz.func109 rfl Tryz.ntmps109 rfl ?_
  (repeat' (first | (show TL _ _ _ _ (_ :: _) _ _ _; first | refine TL.sa ?_ | (refine TL.na ?_; intro _)) | (first | refine Stp.h ?_ | refine Post.then_normal ?_ | refine Post.next ?_ | refine Post.block_other rfl ?_) | (show TT _ _ _ _ _ _ _ _ _; refine TT.sa ?_) | exact TTs.nil | refine TTs.cons ?_ ?_ | (show T1 _ _ _ _ _ _ _ _ _ _; first | refine T1.sa ?_ | (refine T1.na ?_; intro _)) | (show TC _ _ _ _ _ _ _ _ _ _; first | refine TC.goa ?_ | refine TC.fina ?_) | refine Tri.ca ?_))
  refine Tri.dr (.take 0 (.take 1 (.take 2 (.take 3 (.take 4 (.take 5 (.done))))))) ?_
  (repeat' (first | (show TL _ _ _ _ (_ :: _) _ _ _; first | refine TL.sa ?_ | (refine TL.na ?_; intro _)) | (first | refine Stp.h ?_ | refine Post.then_normal ?_ | refine Post.next ?_ | refine Post.block_other rfl ?_) | (show TT _ _ _ _ _ _ _ _ _; refine TT.sa ?_) | exact TTs.nil | refine TTs.cons ?_ ?_ | (show T1 _ _ _ _ _ _ _ _ _ _; first | refine T1.sa ?_ | (refine T1.na ?_; intro _)) | (show TC _ _ _ _ _ _ _ _ _ _; first | refine TC.goa ?_ | refine TC.fina ?_) | refine Tri.ca ?_))
  rename_i b2 b3 b4
  refine Tri.loop (ι := Value × Value × Nat × Nat) (fun s => Nat.gcd s.2.2.1 s.2.2.2 = Nat.gcd x.natAbs y.natAbs ∧ (qud s.2.2.1).length ≤ 10000 ∧ (qud s.2.2.2).length ≤ 10000) (fun s => s.2.2.2)
    (fun s => [(4, .pointer (some ⟨b4, 0, none⟩)), (5, s.1), (6, s.2.1)]) (fun s => .ft (rd (cN .i64) s.2.1 (qud s.2.2.2)) :: .ft (rd (cN .i64) s.1 (qud s.2.2.1)) :: .cl b4 [.bool false, .slice none 0 0] 87 :: As) (.slice pv (qud x.natAbs).length cv, .slice po (qud y.natAbs).length co, x.natAbs, y.natAbs) ⟨rfl, ha, hb⟩ (by (exact Sub.au))
    (Ents.trans (Ents.dup (v := .slice pv (qud x.natAbs).length cv)) (Ents.trans (Ents.dup (v := .slice po (qud y.natAbs).length co)) (by (exact Ents.au)))) ?_
  rintro ⟨v, o, x', y'⟩ ⟨hxy, hx, hy⟩
  simp only at hxy hx hy
  show Tri _ _ _ _ [(4, .pointer (some ⟨b4, 0, none⟩)), (5, v), (6, o)] (.ft (rd (cN .i64) o (qud y')) :: .ft (rd (cN .i64) v (qud x')) :: .cl b4 [.bool false, .slice none 0 0] 87 :: As) _
  (repeat' (first | (show TL _ _ _ _ (_ :: _) _ _ _; first | refine TL.sa ?_ | (refine TL.na ?_; intro _)) | (first | refine Stp.h ?_ | refine Post.then_normal ?_ | refine Post.next ?_ | refine Post.block_other rfl ?_) | (show TT _ _ _ _ _ _ _ _ _; refine TT.sa ?_) | exact TTs.nil | refine TTs.cons ?_ ?_ | (show T1 _ _ _ _ _ _ _ _ _ _; first | refine T1.sa ?_ | (refine T1.na ?_; intro _)) | (show TC _ _ _ _ _ _ _ _ _ _; first | refine TC.goa ?_ | refine TC.fina ?_) | refine Tri.ca ?_))
  by_cases hy0 : y' = 0
  · subst hy0
    rw [Nat.gcd_zero_right] at hxy
    subst hxy
    have hq0 : (qud 0).length = 0 := by rw [qud_zero]; rfl
    refine Tri.rdSl (c := cN .i64) (xs := qud (Nat.gcd x.natAbs y.natAbs)) v ?_
    rintro p cap rfl
    (repeat' (first | (show TL _ _ _ _ (_ :: _) _ _ _; first | refine TL.sa ?_ | (refine TL.na ?_; intro _)) | (first | refine Stp.h ?_ | refine Post.then_normal ?_ | refine Post.next ?_ | refine Post.block_other rfl ?_) | (show TT _ _ _ _ _ _ _ _ _; refine TT.sa ?_) | exact TTs.nil | refine TTs.cons ?_ ?_ | (show T1 _ _ _ _ _ _ _ _ _ _; first | refine T1.sa ?_ | (refine T1.na ?_; intro _)) | (show TC _ _ _ _ _ _ _ _ _ _; first | refine TC.goa ?_ | refine TC.fina ?_) | refine Tri.ca ?_))
    refine TL.f rfl rfl (ExF.build (l := [.bool false, .slice p (qud (Nat.gcd x.natAbs y.natAbs)).length cap]) rfl (fun w => by kernel_rfl)) ?_
    (repeat' (first | (show TL _ _ _ _ (_ :: _) _ _ _; first | refine TL.sa ?_ | (refine TL.na ?_; intro _)) | (first | refine Stp.h ?_ | refine Post.then_normal ?_ | refine Post.next ?_ | refine Post.block_other rfl ?_) | (show TT _ _ _ _ _ _ _ _ _; refine TT.sa ?_) | exact TTs.nil | refine TTs.cons ?_ ?_ | (show T1 _ _ _ _ _ _ _ _ _ _; first | refine T1.sa ?_ | (refine T1.na ?_; intro _)) | (show TC _ _ _ _ _ _ _ _ _ _; first | refine TC.goa ?_ | refine TC.fina ?_) | refine Tri.ca ?_))
    (refine Post.ra ?_)
    refine ⟨_, ⟨p, cap, ?_, rfl⟩, ?_⟩
    · rw [show decide (gcdI x y < 0) = false by rw [decide_eq_false_iff_not]; unfold gcdI; omega]
      rfl
    · rw [show (gcdI x y).natAbs = Nat.gcd x.natAbs y.natAbs from rfl]
      (exact Ents.au)
  · have hyl : (qud y').length ≠ 0 := fun h => hy0 (qud_len0.1 h)
    have hml := qud_len_le (Nat.le_of_lt (Nat.mod_lt x' (show 0 < y' by omega)))
    (repeat' (first | (show TL _ _ _ _ (_ :: _) _ _ _; first | refine TL.sa ?_ | (refine TL.na ?_; intro _)) | (first | refine Stp.h ?_ | refine Post.then_normal ?_ | refine Post.next ?_ | refine Post.block_other rfl ?_) | refine Tri.ca ?_))
    refine TL.call rfl rfl rfl (partsR_ok (a := x') (b := y') hy0 (by omega) (by omega)) ?_
    rintro _ _ ⟨p, cap, p', cap', rfl, rfl⟩
    (repeat' (first | (show TL _ _ _ _ (_ :: _) _ _ _; first | refine TL.sa ?_ | (refine TL.na ?_; intro _)) | (first | refine Stp.h ?_ | refine Post.then_normal ?_ | refine Post.next ?_ | refine Post.block_other rfl ?_) | refine Tri.ca ?_))
    exact Post.round (o, .slice p' (qud (x' % y')).length cap', y', x' % y') ⟨by rw [← hxy]; exact ((Nat.gcd_comm _ _).trans (Nat.gcd_rec y' x').symm).trans (Nat.gcd_comm _ _), hy, by simp only; omega⟩ (Nat.mod_lt _ (by omega)) (by (exact Sub.au)) (by (exact Ents.au))
end Go.Proofs.YtldljckhfcoafaaGreatDoor
