/- Walks: the law of reading back. -/
import Derived.Test.YtldljckhfcoafaaGreatDoorLf5
namespace Go.Proofs.YtldljckhfcoafaaGreatDoor.Q
open Go Go.Sx
variable {w0 : World} {As : List Ent}
/-- what is parsed from a short text, in short -/
theorem parse_short {s : List UInt8} (hs : s.length ≤ 100) :
    (∃ e : Int, e = 5 ∧ parseO (parseQ s) = ([], [], e)) ∨ (∃ (r : Rat) (z : Int), Fit 600 r ∧ parseO (parseQ s) = (tN r, tD r, 0) ∧ (Lib.cut s [46]).2.1.length ≤ 20 ∧ nearQ r (10 ^ (Lib.cut s [46]).2.1.length) = z ∧ fixT z (Lib.cut s [46]).2.1.length = s) := by
  cases h : parseQ s with
  | inr e => exact .inl ⟨e, parse_err (by omega) h, rfl⟩
  | inl r =>
    obtain ⟨h1, z, h2, h3, h4⟩ := text_parse h
    generalize (Lib.cut s [46]).2.1.length = p at *
    have f : Fit 101 r := by
      rw [h2]
      refine fit_mk (by decide) (Nat.pos_iff_ne_zero.1 (Nat.pow_pos (by decide))) (Nat.lt_of_lt_of_le h4 (Nat.pow_le_pow_right (by decide) (by omega))) (ten_lt (by omega))
    have f6 : Fit 600 r := f.mono (by decide)
    exact .inr ⟨r, z, f6, f6.ot, h1, by rw [h2]; exact near_fix z p, h3⟩
theorem div_ten (n : Int) (k : Nat) : (n : Rat) * ((10 : Rat) ^ k)⁻¹ = mkRat n (10 ^ k) := by
  rw [Rat.mkRat_eq_div, ten_pow, Rat.div_def]
set_option maxRecDepth 100000 in
set_option maxHeartbeats 8000000 in
theorem fracBack_ok (ht : Tab w0) (he : ErrR w0) (hm : LenR w0) {n : Int} {m : Nat} {s : List UInt8} (hn : -9223372036854775808 ≤ n ∧ n ≤ 9223372036854775807) (hm8 : m ≤ 255) :
    CallsS Tryz.prog w0 6 [.int .i64 n, .int .u8 (m : Int), .string ⟨s.toArray⟩] As fun u _ => u = .bool true := by
  refine CallsS.of_tri Tryz.func6 rfl Tryz.ntmps6 rfl ?_
  (repeat' (first | (show TL _ _ _ _ (_ :: _) _ _ _; first | refine TL.sa ?_ | (refine TL.na ?_; intro _)) | (first | refine Stp.h ?_ | refine Post.then_normal ?_ | refine Post.next ?_ | refine Post.block_other rfl ?_) | refine Tri.ca ?_))
  refine TL.call rfl rfl rfl (works02_ok ht he hm) ?_
  rintro _ Bs ⟨rfl, hB⟩
  rw [hB]; clear hB Bs
  obtain ⟨k, hk⟩ : ∃ k, k = m % 21 := ⟨_, rfl⟩
  have hk20 : k ≤ 20 := by omega
  have ek : (m : Int) % 21 = (k : Int) := by omega
  have fT := fit_ten hk20
  have fT6 : Fit 600 ((10 : Rat) ^ k) := fT.mono (by decide)
  have f10 : Fit 600 (10 : Rat) := Fit.mono (k := 2) (Fit.of (by decide) (by decide) (by decide)) (by decide)
  have fN : Fit 19 (n : Rat) := fit_intS hn
  have fN6 : Fit 600 (n : Rat) := fN.mono (by decide)
  have fA : Fit 600 ((n : Rat) * ((10 : Rat) ^ k)⁻¹) := (fN.mul fT.inv).mono (by decide)
  have hz : Lib.nDigits n.natAbs ≤ 19 := small_digits hn
  (repeat' (first | (show TL _ _ _ _ (_ :: _) _ _ _; first | refine TL.sa ?_ | (refine TL.na ?_; intro _)) | (first | refine Stp.h ?_ | refine Post.then_normal ?_ | refine Post.next ?_ | refine Post.block_other rfl ?_) | refine Tri.ca ?_))
  rw [ek]
  clear ek hk
  refine TL.callv rfl rfl rfl rfl (qT_ok ht (n := 10) (d := 1) (r := 10) (by decide) (by decide) (by decide +kernel) f10) ?_
  rintro _ Bs ⟨rfl, hB⟩
  rw [hB]; clear hB Bs
  (repeat' (first | (show TL _ _ _ _ (_ :: _) _ _ _; first | refine TL.sa ?_ | (refine TL.na ?_; intro _)) | (first | refine Stp.h ?_ | refine Post.then_normal ?_ | refine Post.next ?_ | refine Post.block_other rfl ?_) | refine Tri.ca ?_))
  refine TL.callv rfl rfl rfl rfl (tenV_ok ht (p := k) hk20) ?_
  rintro _ Bs ⟨rfl, hB⟩
  rw [hB]; clear hB Bs
  (repeat' (first | (show TL _ _ _ _ (_ :: _) _ _ _; first | refine TL.sa ?_ | (refine TL.na ?_; intro _)) | (first | refine Stp.h ?_ | refine Post.then_normal ?_ | refine Post.next ?_ | refine Post.block_other rfl ?_) | refine Tri.ca ?_))
  rename_i b8
  refine Tri.mid (fun e' As' => ∃ b10, e' = [(2, .string ⟨s.toArray⟩), (7, .int .i64 (k : Int)), (9, .int .i64 0), (10, .pointer (some ⟨b10, 0, none⟩)), (11, .int .i64 0)] ∧
    As' = .cl b10 [.string ⟨(tN ((n : Rat) * ((10 : Rat) ^ k)⁻¹)).toArray⟩, .string ⟨(tD ((n : Rat) * ((10 : Rat) ^ k)⁻¹)).toArray⟩] 24 :: As) ?_ ?_
  · refine Tri.dw [.cl b8 [.string ⟨(tN ((10 : Rat) ^ k)).toArray⟩, .string ⟨(tD ((10 : Rat) ^ k)).toArray⟩] 24] [] (.take 0 (.take 2 (.all [(1, .all [(3, .take 4 (.take 5 (.take 6 (.all [(7, .all [(8, .take 9 (.done))])])))), (7, .all [(3, .take 4 (.take 5 (.take 6 (.all [(8, .take 9 (.done))]))))])]), (7, .all [(1, .all [(3, .take 4 (.take 5 (.take 6 (.all [(8, .take 9 (.done))]))))])])]))) ?_
    (repeat' (first | (show TL _ _ _ _ (_ :: _) _ _ _; first | refine TL.sa ?_ | (refine TL.na ?_; intro _)) | (first | refine Stp.h ?_ | refine Post.then_normal ?_ | refine Post.next ?_ | refine Post.block_other rfl ?_) | (show TT _ _ _ _ _ _ _ _ _; refine TT.sa ?_) | exact TTs.nil | refine TTs.cons ?_ ?_ | (show T1 _ _ _ _ _ _ _ _ _ _; first | refine T1.sa ?_ | (refine T1.na ?_; intro _)) | (show TC _ _ _ _ _ _ _ _ _ _; first | refine TC.goa ?_ | refine TC.fina ?_) | refine Tri.ca ?_))
    iterate 2
      all_goals
        first
          | (refine T1.callv rfl rfl rfl rfl rfl (qT_ok ht (n := n) (d := 1) (r := (n : Rat)) hn (by decide) (Rat.mkRat_one n) fN6) ?_
             rintro _ _ ⟨rfl, rfl⟩)
          | (refine T1.callv rfl rfl rfl rfl rfl (divT_ok ht (r := (n : Rat)) (s := (10 : Rat) ^ k) fN6 fT6 (ten_ne k) fA) ?_
             rintro _ _ ⟨rfl, rfl⟩)
        (repeat' (first | (show TL _ _ _ _ (_ :: _) _ _ _; first | refine TL.sa ?_ | (refine TL.na ?_; intro _)) | (first | refine Stp.h ?_ | refine Post.then_normal ?_ | refine Post.next ?_ | refine Post.block_other rfl ?_) | (show TT _ _ _ _ _ _ _ _ _; refine TT.sa ?_) | exact TTs.nil | refine TTs.cons ?_ ?_ | (show T1 _ _ _ _ _ _ _ _ _ _; first | refine T1.sa ?_ | (refine T1.na ?_; intro _)) | (show TC _ _ _ _ _ _ _ _ _ _; first | refine TC.goa ?_ | refine TC.fina ?_) | refine Tri.ca ?_))
    all_goals exact Post.cut _ _ ⟨_, rfl, rfl⟩ (by (exact Sub.au)) (by (exact Ents.au))
  rintro _ _ ⟨b10, rfl, rfl⟩
  rw [div_ten n k] at fA ⊢
  (repeat' (first | (show TL _ _ _ _ (_ :: _) _ _ _; first | refine TL.sa ?_ | (refine TL.na ?_; intro _)) | (first | refine Stp.h ?_ | refine Post.then_normal ?_ | refine Post.next ?_ | refine Post.block_other rfl ?_) | (show TT _ _ _ _ _ _ _ _ _; refine TT.sa ?_) | exact TTs.nil | refine TTs.cons ?_ ?_ | (show T1 _ _ _ _ _ _ _ _ _ _; first | refine T1.sa ?_ | (refine T1.na ?_; intro _)) | (show TC _ _ _ _ _ _ _ _ _ _; first | refine TC.goa ?_ | refine TC.fina ?_) | refine Tri.ca ?_))
  refine TL.callv rfl rfl rfl rfl (textV_ok ht (r := mkRat n (10 ^ k)) (p := k) fA hk20) ?_
  rw [near_fix]
  rintro _ _ ⟨rfl, rfl⟩
  have hx : parseQ (fixT n k) = .inl (mkRat n (10 ^ k)) := parse_fix hk20 (by omega)
  have hl : (fixT n k).length ≤ 1000000000 := by have := fixT_len (z := n) (p := k) (by omega) hk20; omega
  have e2 : parseO (parseQ (fixT n k)) = (tN (mkRat n (10 ^ k)), tD (mkRat n (10 ^ k)), 0) := by
    rw [hx]; exact fA.ot
  clear hx hz fT fT6 f10 fN fN6
  (repeat' (first | (show TL _ _ _ _ (_ :: _) _ _ _; first | refine TL.sa ?_ | (refine TL.na ?_; intro _)) | (first | refine Stp.h ?_ | refine Post.then_normal ?_ | refine Post.next ?_ | refine Post.block_other rfl ?_) | (show TT _ _ _ _ _ _ _ _ _; refine TT.sa ?_) | exact TTs.nil | refine TTs.cons ?_ ?_ | (show T1 _ _ _ _ _ _ _ _ _ _; first | refine T1.sa ?_ | (refine T1.na ?_; intro _)) | (show TC _ _ _ _ _ _ _ _ _ _; first | refine TC.goa ?_ | refine TC.fina ?_) | refine Tri.ca ?_))
  refine TL.callv rfl rfl rfl rfl is_ok ?_
  rintro _ _ ⟨b, c, rfl, rfl⟩
  (repeat' (first | (show TL _ _ _ _ (_ :: _) _ _ _; first | refine TL.sa ?_ | (refine TL.na ?_; intro _)) | (first | refine Stp.h ?_ | refine Post.then_normal ?_ | refine Post.next ?_ | refine Post.block_other rfl ?_) | (show TT _ _ _ _ _ _ _ _ _; refine TT.sa ?_) | exact TTs.nil | refine TTs.cons ?_ ?_ | (show T1 _ _ _ _ _ _ _ _ _ _; first | refine T1.sa ?_ | (refine T1.na ?_; intro _)) | (show TC _ _ _ _ _ _ _ _ _ _; first | refine TC.goa ?_ | refine TC.fina ?_) | refine Tri.ca ?_))
  refine TL.callv rfl rfl rfl rfl (parseF_ok ht hm (s := fixT n k) hl) ?_
  rw [e2]
  rintro _ _ ⟨rfl, rfl⟩
  (repeat' (first | (show TL _ _ _ _ (_ :: _) _ _ _; first | refine TL.sa ?_ | (refine TL.na ?_; intro _)) | (first | refine Stp.h ?_ | refine Post.then_normal ?_ | refine Post.next ?_ | refine Post.block_other rfl ?_) | (show TT _ _ _ _ _ _ _ _ _; refine TT.sa ?_) | exact TTs.nil | refine TTs.cons ?_ ?_ | (show T1 _ _ _ _ _ _ _ _ _ _; first | refine T1.sa ?_ | (refine T1.na ?_; intro _)) | (show TC _ _ _ _ _ _ _ _ _ _; first | refine TC.goa ?_ | refine TC.fina ?_) | refine Tri.ca ?_))
  refine TL.callv rfl rfl rfl rfl isEnd_ok ?_
  rintro _ _ ⟨rfl, rfl⟩
  clear fA hl e2
  generalize fixT n k = T0
  (repeat' (first | (show TL _ _ _ _ (_ :: _) _ _ _; first | refine TL.sa ?_ | (refine TL.na ?_; intro _)) | (first | refine Stp.h ?_ | refine Post.then_normal ?_ | refine Post.next ?_ | refine Post.block_other rfl ?_) | refine Tri.ca ?_))
  rw [show (if (100 : Int) < (s.length : Int) then 100 else (s.length : Int)) = ((min s.length 100 : Nat) : Int) from by split <;> omega]
  (repeat' (first | (show TL _ _ _ _ (_ :: _) _ _ _; first | refine TL.sa ?_ | (refine TL.na ?_; intro _)) | (first | refine Stp.h ?_ | refine Post.then_normal ?_ | refine Post.next ?_ | refine Post.block_other rfl ?_) | refine Tri.ca ?_))
  obtain ⟨t, htd⟩ : ∃ t, t = s.take (min s.length 100) := ⟨_, rfl⟩
  have htl : t.length ≤ 100 := by rw [htd, List.length_take]; omega
  rw [show List.take (min s.length 100 - 0) (List.drop 0 s) = t from by rw [htd]; rfl]
  clear htd
  have hps := parse_short htl
  refine TL.callv rfl rfl rfl rfl (parseF_ok ht hm (s := t) (by omega)) ?_
  rcases hps with ⟨e, he5, h1⟩ | ⟨r, z, fr, h1, h2, h3, h4⟩
  · rw [h1]
    subst he5
    rintro _ _ ⟨rfl, rfl⟩
    (repeat' (first | (show TL _ _ _ _ (_ :: _) _ _ _; first | refine TL.sa ?_ | (refine TL.na ?_; intro _)) | (first | refine Stp.h ?_ | refine Post.then_normal ?_ | refine Post.next ?_ | refine Post.block_other rfl ?_) | refine Tri.ca ?_))
    (refine Post.ra ?_)
    exact ⟨[], rfl, Ents.of_cov inferInstance⟩
  · rw [h1]
    rintro _ _ ⟨rfl, rfl⟩
    (repeat' (first | (show TL _ _ _ _ (_ :: _) _ _ _; first | refine TL.sa ?_ | (refine TL.na ?_; intro _)) | (first | refine Stp.h ?_ | refine Post.then_normal ?_ | refine Post.next ?_ | refine Post.block_other rfl ?_) | refine Tri.ca ?_))
    rename_i b14
    refine TL.callv rfl rfl rfl rfl (cutT_ok hm (s := t) (by omega)) ?_
    rintro _ _ ⟨rfl, rfl⟩
    (repeat' (first | (show TL _ _ _ _ (_ :: _) _ _ _; first | refine TL.sa ?_ | (refine TL.na ?_; intro _)) | (first | refine Stp.h ?_ | refine Post.then_normal ?_ | refine Post.next ?_ | refine Post.block_other rfl ?_) | refine Tri.ca ?_))
    refine Tri.dw [.cl b14 [.string ⟨(tN r).toArray⟩, .string ⟨(tD r).toArray⟩] 24] [] (.take 0 (.take 2 (.take 3 (.take 4 (.all [(1, .all [(5, .take 6 (.take 7 (.all [(8, .take 9 (.done))])))])]))))) ?_
    (repeat' (first | (show TL _ _ _ _ (_ :: _) _ _ _; first | refine TL.sa ?_ | (refine TL.na ?_; intro _)) | (first | refine Stp.h ?_ | refine Post.then_normal ?_ | refine Post.next ?_ | refine Post.block_other rfl ?_) | (show TT _ _ _ _ _ _ _ _ _; refine TT.sa ?_) | exact TTs.nil | refine TTs.cons ?_ ?_ | (show T1 _ _ _ _ _ _ _ _ _ _; first | refine T1.sa ?_ | (refine T1.na ?_; intro _)) | (show TC _ _ _ _ _ _ _ _ _ _; first | refine TC.goa ?_ | refine TC.fina ?_) | refine Tri.ca ?_))
    iterate 3
      all_goals
        first
          | (refine T1.callv rfl rfl rfl rfl rfl (tells_ok (s := t)) ?_
             rintro _ _ ⟨bt, rfl, rfl⟩)
          | (refine T1.callv rfl rfl rfl rfl rfl (textV_ok ht (r := r) (p := (Lib.cut t [46]).2.1.length) fr h2) ?_
             rw [h3, h4]
             rintro _ _ ⟨rfl, rfl⟩)
          | (refine T1.callv rfl rfl rfl rfl rfl (tellsEnd_ok (s := t)) ?_
             rintro _ _ ⟨rfl, rfl⟩)
        (repeat' (first | (show TL _ _ _ _ (_ :: _) _ _ _; first | refine TL.sa ?_ | (refine TL.na ?_; intro _)) | (first | refine Stp.h ?_ | refine Post.then_normal ?_ | refine Post.next ?_ | refine Post.block_other rfl ?_) | (show TT _ _ _ _ _ _ _ _ _; refine TT.sa ?_) | exact TTs.nil | refine TTs.cons ?_ ?_ | (show T1 _ _ _ _ _ _ _ _ _ _; first | refine T1.sa ?_ | (refine T1.na ?_; intro _)) | (show TC _ _ _ _ _ _ _ _ _ _; first | refine TC.goa ?_ | refine TC.fina ?_) | refine Tri.ca ?_))
    all_goals
      (refine Post.ra ?_)
      exact ⟨[], rfl, Ents.of_cov inferInstance⟩
end Go.Proofs.YtldljckhfcoafaaGreatDoor.Q
