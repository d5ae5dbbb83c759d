/- Walks: magnitudes: the decimal digits, the text. -/
import Derived.Test.YtldljckhfcoafaaGreatDoorWa2
namespace Go.Proofs.YtldljckhfcoafaaGreatDoor
open Go Go.Sx
variable {w0 : World} {As : List Ent}
theorem put_ok (ht : Tab w0) {b d wd : Nat} {p bv : Value} {bs : List UInt8} (hp : p = .pointer none ∨ p = .pointer (some ⟨b, 0, none⟩)) (hd : d < 1000000000) (hw : wd ≤ 9) (hl : bs.length ≤ 900000000) :
    CallsS Tryz.prog w0 183 [.int .u32 (d : Int), .int .i64 (wd : Int), .pointer (some ⟨b, 0, none⟩)] (.cl b [p, bv] 175 :: .ow cU8 5 bv bs :: As)
      fun _ Bs => Bld b (bs ++ (List.replicate (wd - Lib.nDigits d) 48 ++ Lib.decDigits d)) As Bs := by
  refine CallsS.of_tri Tryz.func183 rfl Tryz.ntmps183 rfl ?_
  (repeat' (first | (show TL _ _ _ _ (_ :: _) _ _ _; first | refine TL.sa ?_ | (refine TL.na ?_; intro _)) | (first | refine Stp.h ?_ | refine Post.then_normal ?_ | refine Post.next ?_ | refine Post.block_other rfl ?_) | refine Tri.ca ?_))
  refine TL.call rfl rfl rfl (itoa_ok ht (n := (d : Int)) (by omega) (by omega)) ?_
  rintro _ As ⟨rfl, rfl⟩
  rw [Lib.itoa_nonneg]
  have hdl := dec_len d
  have hdn := nDigits_le (k := 8) (r := d) (by simpa using hd)
  (repeat' (first | (show TL _ _ _ _ (_ :: _) _ _ _; first | refine TL.sa ?_ | (refine TL.na ?_; intro _)) | (first | refine Stp.h ?_ | refine Post.then_normal ?_ | refine Post.next ?_ | refine Post.block_other rfl ?_) | refine Tri.ca ?_))
  rw [hdl]
  refine Tri.loop (ι := Nat × Value × Value) (fun s => s.1 ≤ wd - Lib.nDigits d ∧ (s.2.1 = .pointer none ∨ s.2.1 = .pointer (some ⟨b, 0, none⟩))) (fun s => wd - Lib.nDigits d - s.1)
    (fun s => [(2, .pointer (some ⟨b, 0, none⟩)), (5, .string ⟨(Lib.decDigits d).toArray⟩), (12, .int .i64 ((wd : Int) - (Lib.nDigits d : Int))), (13, .int .i64 (s.1 : Int))])
    (fun s => .cl b [s.2.1, s.2.2] 175 :: .ow cU8 5 s.2.2 (bs ++ List.replicate s.1 48) :: As) (0, p, bv) ⟨by omega, hp⟩ (by (exact Sub.au)) (by simp only [List.replicate_zero, List.append_nil]; (exact Ents.au)) ?_
  rintro ⟨k, p, bv⟩ ⟨hk, hp⟩
  simp only at hk hp
  show Tri _ _ _ _ [(2, _), (5, _), (12, _), (13, .int .i64 (k : Int))] (.cl b [p, bv] 175 :: .ow cU8 5 bv (bs ++ List.replicate k 48) :: As) _
  (repeat' (first | (show TL _ _ _ _ (_ :: _) _ _ _; first | refine TL.sa ?_ | (refine TL.na ?_; intro _)) | (first | refine Stp.h ?_ | refine Post.then_normal ?_ | refine Post.next ?_ | refine Post.block_other rfl ?_) | refine Tri.ca ?_))
  ((show Tri _ _ _ (.cond _ _ _) _ _ _; first | refine Tri.condP rfl (fun hc => ?_) (fun hc => ?_) | refine Tri.condN rfl (fun hc => ?_) (fun hc => ?_)))
  · (repeat' (first | (show TL _ _ _ _ (_ :: _) _ _ _; first | refine TL.sa ?_ | (refine TL.na ?_; intro _)) | (first | refine Stp.h ?_ | refine Post.then_normal ?_ | refine Post.next ?_ | refine Post.block_other rfl ?_) | refine Tri.ca ?_))
    refine TL.call rfl rfl rfl (writeByte_ok (c := 48) hp (by simp; omega)) ?_
    rintro _ _ ⟨rfl, p', bv', hp', rfl⟩
    (repeat' (first | (show TL _ _ _ _ (_ :: _) _ _ _; first | refine TL.sa ?_ | (refine TL.na ?_; intro _)) | (first | refine Stp.h ?_ | refine Post.then_normal ?_ | refine Post.next ?_ | refine Post.block_other rfl ?_) | refine Tri.ca ?_))
    refine Post.round (k + 1, p', bv') ⟨by simp only; omega, hp'⟩ (by simp only; omega) (by (exact Sub.au)) ?_
    simp only [List.replicate_succ', List.append_assoc]
    (exact Ents.au)
  · (repeat' (first | (show TL _ _ _ _ (_ :: _) _ _ _; first | refine TL.sa ?_ | (refine TL.na ?_; intro _)) | (first | refine Stp.h ?_ | refine Post.then_normal ?_ | refine Post.next ?_ | refine Post.block_other rfl ?_) | refine Tri.ca ?_))
    refine TL.call rfl rfl rfl (writeString_ok hp (by simp; omega) (by omega)) ?_
    rintro _ _ ⟨p', bv', hp', rfl⟩
    (repeat' (first | (show TL _ _ _ _ (_ :: _) _ _ _; first | refine TL.sa ?_ | (refine TL.na ?_; intro _)) | (first | refine Stp.h ?_ | refine Post.then_normal ?_ | refine Post.next ?_ | refine Post.block_other rfl ?_) | refine Tri.ca ?_))
    (refine Post.ra ?_)
    have : k = wd - Lib.nDigits d := by omega
    subst this
    exact ⟨_, ⟨p', bv', hp', by rw [← List.append_assoc]⟩, by (exact Ents.au)⟩
theorem digits_ok (ht : Tab w0) {v : Value} {n : Nat} [hr : RdIn As v Nat (cN .u32) (mag n)] (hl : (mag n).length ≤ 1000) :
    CallsS Tryz.prog w0 151 [v] As fun u Bs => u = .string ⟨(Lib.decDigits n).toArray⟩ ∧ Bs = As := by
  refine CallsS.of_tri Tryz.func151 rfl Tryz.ntmps151 rfl ?_
  (repeat' (first | (show TL _ _ _ _ (_ :: _) _ _ _; first | refine TL.sa ?_ | (refine TL.na ?_; intro _)) | (first | refine Stp.h ?_ | refine Post.then_normal ?_ | refine Post.next ?_ | refine Post.block_other rfl ?_) | refine Tri.ca ?_))
  refine TL.call rfl rfl rfl zero_ok ?_
  rintro _ As ⟨rfl, rfl⟩
  (repeat' (first | (show TL _ _ _ _ (_ :: _) _ _ _; first | refine TL.sa ?_ | (refine TL.na ?_; intro _)) | (first | refine Stp.h ?_ | refine Post.then_normal ?_ | refine Post.next ?_ | refine Post.block_other rfl ?_) | refine Tri.ca ?_))
  ((show Tri _ _ _ (.cond _ _ _) _ _ _; first | refine Tri.condP rfl (fun hc => ?_) (fun hc => ?_) | refine Tri.condN rfl (fun hc => ?_) (fun hc => ?_)))
  · subst hc
    (repeat' (first | (show TL _ _ _ _ (_ :: _) _ _ _; first | refine TL.sa ?_ | (refine TL.na ?_; intro _)) | (first | refine Stp.h ?_ | refine Post.then_normal ?_ | refine Post.next ?_ | refine Post.block_other rfl ?_) | refine Tri.ca ?_))
    (refine Post.ra ?_)
    exact ⟨_, ⟨by rw [dec_small (by decide)]; rfl, rfl⟩, by (exact Ents.au)⟩
  · have h1 : (mag n).length ≠ 0 := fun h => hc (mag_len0.1 h)
    obtain ⟨d, hd⟩ : ∃ d, (mag n)[(mag n).length - 1]? = some d := ⟨_, List.getElem?_eq_getElem (by omega)⟩
    obtain ⟨g1, g2, g3⟩ := mag_get hd
    (repeat' (first | (show TL _ _ _ _ (_ :: _) _ _ _; first | refine TL.sa ?_ | (refine TL.na ?_; intro _)) | (first | refine Stp.h ?_ | refine Post.then_normal ?_ | refine Post.next ?_ | refine Post.block_other rfl ?_) | refine Tri.ca ?_))
    rename_i b
    refine TL.ents (Ents.nilW (T := 5) cU8) ?_
    refine TL.front (.cl b [.pointer none, .slice none 0 0] 175) ?_
    refine TL.callv rfl rfl rfl rfl (put_ok ht (wd := 0) (.inl rfl) g3 (by omega) (by simp)) ?_
    rintro _ _ ⟨p, bv, hp, rfl⟩
    have hlast : n / 1000000000 ^ ((mag n).length - 1 + 1) = 0 := by
      rw [show (mag n).length - 1 + 1 = (mag n).length by omega]
      exact Nat.div_eq_of_lt (mag_lt_pow n)
    rw [hlast, Nat.mul_zero, Nat.add_zero] at g1
    have e0 : ([] : List UInt8) ++ (List.replicate (0 - Lib.nDigits d) 48 ++ Lib.decDigits d) = Lib.decDigits (n / 1000000000 ^ ((mag n).length - 1)) := by rw [g1]; simp
    rw [e0]
    (repeat' (first | (show TL _ _ _ _ (_ :: _) _ _ _; first | refine TL.sa ?_ | (refine TL.na ?_; intro _)) | (first | refine Stp.h ?_ | refine Post.then_normal ?_ | refine Post.next ?_ | refine Post.block_other rfl ?_) | refine Tri.ca ?_))
    have hbl : ∀ q, q ≤ n → (Lib.decDigits q).length ≤ 9001 := fun q hq => by
      rw [dec_len]
      have h2 := mag_len_le hq
      by_cases h0 : q = 0
      · subst h0; rw [Lib.nDigits_small (by decide)]; omega
      · have h3 : (mag q).length ≠ 0 := fun h => h0 (mag_len0.1 h)
        obtain ⟨d', hd'⟩ : ∃ d, (mag q)[(mag q).length - 1]? = some d := ⟨_, List.getElem?_eq_getElem (by omega)⟩
        obtain ⟨k1, k2, k3⟩ := mag_get hd'
        rw [nDigits_mag _ k2, k1]
        have hl0 : q / 1000000000 ^ ((mag q).length - 1 + 1) = 0 := by
          rw [show (mag q).length - 1 + 1 = (mag q).length by omega]
          exact Nat.div_eq_of_lt (mag_lt_pow q)
        rw [hl0, Nat.mul_zero, Nat.add_zero]
        have := nDigits_le (k := 8) (r := d') (by simpa using k3)
        omega
    refine Tri.loop (ι := Nat × Value × Value) (fun s => s.1 ≤ (mag n).length - 1 ∧ (s.2.1 = .pointer none ∨ s.2.1 = .pointer (some ⟨b, 0, none⟩)) ∧ n / 1000000000 ^ s.1 ≠ 0) (fun s => s.1)
      (fun s => [(0, v), (3, .pointer (some ⟨b, 0, none⟩)), (4, .func (.func 183) #[] #[.pointer (some ⟨b, 0, none⟩)]), (6, .int .i64 ((s.1 : Int) - 1))])
      (fun s => .cl b [s.2.1, s.2.2] 175 :: .ow cU8 5 s.2.2 (Lib.decDigits (n / 1000000000 ^ s.1)) :: As) ((mag n).length - 1, p, bv) ⟨Nat.le_refl _, hp, g2⟩ (by (exact Sub.au)) (by (exact Ents.au)) ?_
    rintro ⟨j, p, bv⟩ ⟨hj, hp, hj0⟩
    simp only at hj hp hj0
    show Tri _ _ _ _ [(0, v), (3, _), (4, _), (6, .int .i64 ((j : Int) - 1))] (.cl b [p, bv] 175 :: .ow cU8 5 bv (Lib.decDigits (n / 1000000000 ^ j)) :: As) _
    have hlj := hbl (n / 1000000000 ^ j) (Nat.div_le_self _ _)
    cases j with
    | zero =>
      rw [show ((0 : Nat) : Int) - 1 = -1 from rfl]
      (repeat' (first | (show TL _ _ _ _ (_ :: _) _ _ _; first | refine TL.sa ?_ | (refine TL.na ?_; intro _)) | (first | refine Stp.h ?_ | refine Post.then_normal ?_ | refine Post.next ?_ | refine Post.block_other rfl ?_) | refine Tri.ca ?_))
      refine TL.call rfl rfl rfl (string_ok (by intro h; have := congrArg List.length h; rw [dec_len] at this; have := nDigits_pos (n / 1000000000 ^ 0); simp at *; omega) (by omega)) ?_
      rintro _ As ⟨rfl, rfl⟩
      (repeat' (first | (show TL _ _ _ _ (_ :: _) _ _ _; first | refine TL.sa ?_ | (refine TL.na ?_; intro _)) | (first | refine Stp.h ?_ | refine Post.then_normal ?_ | refine Post.next ?_ | refine Post.block_other rfl ?_) | refine Tri.ca ?_))
      (refine Post.ra ?_)
      exact ⟨_, ⟨by simp, rfl⟩, by (exact Ents.au)⟩
    | succ j =>
      rw [show ((j + 1 : Nat) : Int) - 1 = (j : Int) by omega]
      obtain ⟨d', hd'⟩ : ∃ d, (mag n)[j]? = some d := ⟨_, List.getElem?_eq_getElem (by omega)⟩
      obtain ⟨k1, k2, k3⟩ := mag_get hd'
      (repeat' (first | (show TL _ _ _ _ (_ :: _) _ _ _; first | refine TL.sa ?_ | (refine TL.na ?_; intro _)) | (first | refine Stp.h ?_ | refine Post.then_normal ?_ | refine Post.next ?_ | refine Post.block_other rfl ?_) | refine Tri.ca ?_))
      refine TL.callv rfl rfl rfl rfl (put_ok ht (wd := 9) hp k3 (by omega) (by omega)) ?_
      rintro _ _ ⟨p', bv', hp', rfl⟩
      rw [← dec_group hj0 k3, ← k1]
      (repeat' (first | (show TL _ _ _ _ (_ :: _) _ _ _; first | refine TL.sa ?_ | (refine TL.na ?_; intro _)) | (first | refine Stp.h ?_ | refine Post.then_normal ?_ | refine Post.next ?_ | refine Post.block_other rfl ?_) | refine Tri.ca ?_))
      exact Post.round (j, p', bv') ⟨by simp only; omega, hp', k2⟩ (by simp only; omega) (by (exact Sub.au)) (by (exact Ents.au))
theorem length_ok (ht : Tab w0) {v : Value} {n : Nat} [hr : RdIn As v Nat (cN .u32) (mag n)] (hl : (mag n).length ≤ 1000000000) :
    CallsS Tryz.prog w0 150 [v] As fun u Bs => u = .int .i64 (Lib.nDigits n) ∧ Bs = As := by
  refine CallsS.of_tri Tryz.func150 rfl Tryz.ntmps150 rfl ?_
  (repeat' (first | (show TL _ _ _ _ (_ :: _) _ _ _; first | refine TL.sa ?_ | (refine TL.na ?_; intro _)) | (first | refine Stp.h ?_ | refine Post.then_normal ?_ | refine Post.next ?_ | refine Post.block_other rfl ?_) | refine Tri.ca ?_))
  refine TL.call rfl rfl rfl zero_ok ?_
  rintro _ As ⟨rfl, rfl⟩
  (repeat' (first | (show TL _ _ _ _ (_ :: _) _ _ _; first | refine TL.sa ?_ | (refine TL.na ?_; intro _)) | (first | refine Stp.h ?_ | refine Post.then_normal ?_ | refine Post.next ?_ | refine Post.block_other rfl ?_) | refine Tri.ca ?_))
  ((show Tri _ _ _ (.cond _ _ _) _ _ _; first | refine Tri.condP rfl (fun hc => ?_) (fun hc => ?_) | refine Tri.condN rfl (fun hc => ?_) (fun hc => ?_)))
  · subst hc
    (repeat' (first | (show TL _ _ _ _ (_ :: _) _ _ _; first | refine TL.sa ?_ | (refine TL.na ?_; intro _)) | (first | refine Stp.h ?_ | refine Post.then_normal ?_ | refine Post.next ?_ | refine Post.block_other rfl ?_) | refine Tri.ca ?_))
    (refine Post.ra ?_)
    exact ⟨_, ⟨by rw [Lib.nDigits_small (by decide)]; rfl, rfl⟩, by (exact Ents.au)⟩
  · have h1 : (mag n).length ≠ 0 := fun h => hc (mag_len0.1 h)
    obtain ⟨d, hd⟩ : ∃ d, (mag n)[(mag n).length - 1]? = some d := ⟨_, List.getElem?_eq_getElem (by omega)⟩
    obtain ⟨g1, g2, g3⟩ := mag_get hd
    have hlast : n / 1000000000 ^ ((mag n).length - 1 + 1) = 0 := by
      rw [show (mag n).length - 1 + 1 = (mag n).length by omega]
      exact Nat.div_eq_of_lt (mag_lt_pow n)
    rw [hlast, Nat.mul_zero, Nat.add_zero] at g1
    have hn := nDigits_mag _ g2
    rw [g1] at hn
    have hdn := nDigits_le (k := 8) (r := d) (by simpa using g3)
    (repeat' (first | (show TL _ _ _ _ (_ :: _) _ _ _; first | refine TL.sa ?_ | (refine TL.na ?_; intro _)) | (first | refine Stp.h ?_ | refine Post.then_normal ?_ | refine Post.next ?_ | refine Post.block_other rfl ?_) | refine Tri.ca ?_))
    refine TL.call rfl rfl rfl (itoa_ok ht (n := (d : Int)) (by omega) (by omega)) ?_
    rintro _ As ⟨rfl, rfl⟩
    rw [Lib.itoa_nonneg]
    have hdl := dec_len d
    (repeat' (first | (show TL _ _ _ _ (_ :: _) _ _ _; first | refine TL.sa ?_ | (refine TL.na ?_; intro _)) | (first | refine Stp.h ?_ | refine Post.then_normal ?_ | refine Post.next ?_ | refine Post.block_other rfl ?_) | refine Tri.ca ?_))
    (refine Post.ra ?_)
    refine ⟨_, ⟨?_, rfl⟩, by (exact Ents.au)⟩
    rw [hn, hdl]
    congr 1
    omega
theorem write_ok (ht : Tab w0) {v : Value} {z : Int} [hr : RdIn As v Nat (cN .u32) (mag z.natAbs)] (hl : (mag z.natAbs).length ≤ 1000000000) :
    CallsS Tryz.prog w0 105 [.agg #[v, .bool (decide (z < 0))]] As fun u Bs => u = .tuple #[.string ⟨(outW z).1.toArray⟩, .int .i64 (outW z).2] ∧ Bs = As := by
  refine CallsS.of_tri Tryz.func105 rfl Tryz.ntmps105 rfl ?_
  (repeat' (first | (show TL _ _ _ _ (_ :: _) _ _ _; first | refine TL.sa ?_ | (refine TL.na ?_; intro _)) | (first | refine Stp.h ?_ | refine Post.then_normal ?_ | refine Post.next ?_ | refine Post.block_other rfl ?_) | refine Tri.ca ?_))
  refine TL.call rfl rfl rfl (length_ok ht hl) ?_
  rintro _ As ⟨rfl, rfl⟩
  (repeat' (first | (show TL _ _ _ _ (_ :: _) _ _ _; first | refine TL.sa ?_ | (refine TL.na ?_; intro _)) | (first | refine Stp.h ?_ | refine Post.then_normal ?_ | refine Post.next ?_ | refine Post.block_other rfl ?_) | refine Tri.ca ?_))
  ((show Tri _ _ _ (.cond _ _ _) _ _ _; first | refine Tri.condP rfl (fun hc => ?_) (fun hc => ?_) | refine Tri.condN rfl (fun hc => ?_) (fun hc => ?_)))
  · (repeat' (first | (show TL _ _ _ _ (_ :: _) _ _ _; first | refine TL.sa ?_ | (refine TL.na ?_; intro _)) | (first | refine Stp.h ?_ | refine Post.then_normal ?_ | refine Post.next ?_ | refine Post.block_other rfl ?_) | refine Tri.ca ?_))
    (refine Post.ra ?_)
    exact ⟨_, ⟨by rw [outW, if_pos (by omega)], rfl⟩, by (exact Ents.au)⟩
  · have hlm : (mag z.natAbs).length ≤ 1000 := by
      by_cases h0 : z.natAbs = 0
      · rw [h0, mag_zero]; simp
      · have h3 : (mag z.natAbs).length ≠ 0 := fun h => h0 (mag_len0.1 h)
        obtain ⟨d, hd⟩ : ∃ d, (mag z.natAbs)[(mag z.natAbs).length - 1]? = some d := ⟨_, List.getElem?_eq_getElem (by omega)⟩
        have := nDigits_mag _ (mag_get hd).2.1
        omega
    (repeat' (first | (show TL _ _ _ _ (_ :: _) _ _ _; first | refine TL.sa ?_ | (refine TL.na ?_; intro _)) | (first | refine Stp.h ?_ | refine Post.then_normal ?_ | refine Post.next ?_ | refine Post.block_other rfl ?_) | refine Tri.ca ?_))
    ((show Tri _ _ _ (.cond _ _ _) _ _ _; first | refine Tri.condP rfl (fun hc => ?_) (fun hc => ?_) | refine Tri.condN rfl (fun hc => ?_) (fun hc => ?_)))
    · (repeat' (first | (show TL _ _ _ _ (_ :: _) _ _ _; first | refine TL.sa ?_ | (refine TL.na ?_; intro _)) | (first | refine Stp.h ?_ | refine Post.then_normal ?_ | refine Post.next ?_ | refine Post.block_other rfl ?_) | refine Tri.ca ?_))
      refine TL.call rfl rfl rfl (digits_ok ht hlm) ?_
      rintro _ As ⟨rfl, rfl⟩
      have hdl := dec_len z.natAbs
      (repeat' (first | (show TL _ _ _ _ (_ :: _) _ _ _; first | refine TL.sa ?_ | (refine TL.na ?_; intro _)) | (first | refine Stp.h ?_ | refine Post.then_normal ?_ | refine Post.next ?_ | refine Post.block_other rfl ?_) | refine Tri.ca ?_))
      (refine Post.ra ?_)
      refine ⟨_, ⟨?_, rfl⟩, by (exact Ents.au)⟩
      rw [outW, if_neg (by omega)]
      simp only [textI, Lib.itoa, if_pos hc]
      rfl
    · (repeat' (first | (show TL _ _ _ _ (_ :: _) _ _ _; first | refine TL.sa ?_ | (refine TL.na ?_; intro _)) | (first | refine Stp.h ?_ | refine Post.then_normal ?_ | refine Post.next ?_ | refine Post.block_other rfl ?_) | refine Tri.ca ?_))
      refine TL.call rfl rfl rfl (digits_ok ht hlm) ?_
      rintro _ As ⟨rfl, rfl⟩
      (repeat' (first | (show TL _ _ _ _ (_ :: _) _ _ _; first | refine TL.sa ?_ | (refine TL.na ?_; intro _)) | (first | refine Stp.h ?_ | refine Post.then_normal ?_ | refine Post.next ?_ | refine Post.block_other rfl ?_) | refine Tri.ca ?_))
      (refine Post.ra ?_)
      refine ⟨_, ⟨?_, rfl⟩, by (exact Ents.au)⟩
      rw [outW, if_neg (by omega)]
      simp only [textI, Lib.itoa, if_neg hc]
      rw [show z.natAbs = z.toNat by omega]
end Go.Proofs.YtldljckhfcoafaaGreatDoor
