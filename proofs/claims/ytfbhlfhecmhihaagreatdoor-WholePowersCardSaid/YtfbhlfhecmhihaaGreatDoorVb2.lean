/- Walks: the reference on whole numbers: drafts. -/
import Derived.Test.YtfbhlfhecmhihaaGreatDoorVb1
namespace Go.Sx
open Go
/-- a draft of a number: below, groups (of at most three digits, read modulo 1000), zeros -/
structure D01 where
  below : Bool
  gv : Value
  gs : List Nat
  zeros : Nat
def groupsD (gs : List Nat) : Nat := gs.foldl (fun n g => n * 1000 + g % 1000) 0
def D01.size (d : D01) : Nat := groupsD (d.gs.take 12) * 10 ^ (d.zeros % 501)
def D01.num (d : D01) : Int := if d.below then -(d.size : Int) else (d.size : Int)
def D01.cells (d : D01) : List Value := [.bool d.below, d.gv, .int .u16 (d.zeros : Int)]
def D01.ok (d : D01) : Prop := (∀ g ∈ d.gs, g ≤ 65535) ∧ d.gs.length ≤ 9223372036854775807 ∧ d.zeros ≤ 65535
theorem groupsD_snoc {gs : List Nat} {g : Nat} : groupsD (gs ++ [g]) = groupsD gs * 1000 + g % 1000 := by simp [groupsD]
theorem groupsD_lt (gs : List Nat) : ∀ k, groupsD (gs.take k) < 1000 ^ k
  | 0 => by simp [groupsD]
  | k + 1 => by
    have ih := groupsD_lt gs k
    rw [List.take_add_one]
    cases h : gs[k]? with
    | none =>
      simp only [Option.toList_none, List.append_nil]
      rw [Nat.pow_succ]; omega
    | some g =>
      simp only [Option.toList_some]
      rw [groupsD_snoc, Nat.pow_succ]; omega
theorem mul_ten_lt {a e i j : Nat} (h1 : a < 10 ^ i) (h2 : e ≤ j) : a * 10 ^ e < 10 ^ (i + j) := by
  rw [Nat.pow_add]
  exact Nat.lt_of_lt_of_le (Nat.mul_lt_mul_of_pos_right h1 (Nat.pow_pos (by omega))) (Nat.mul_le_mul_left _ (Nat.pow_le_pow_right (by omega) h2))
theorem qud_len_ten {n j k : Nat} (h : n < 10 ^ j) (hj : j ≤ 4 * k) : (qud n).length ≤ k := by
  refine qud_len_lt (Nat.lt_of_lt_of_le h ?_)
  rw [show (10000 : Nat) = 10 ^ 4 from rfl, ← Nat.pow_mul]
  exact Nat.pow_le_pow_right (by omega) hj
theorem D01.size_lt (d : D01) : ∃ k, k ≤ 540 ∧ d.size < 10 ^ k := by
  have h1 := groupsD_lt d.gs 12
  have h3 : (1000 : Nat) ^ 12 = 10 ^ 36 := by rw [show (1000 : Nat) = 10 ^ 3 from rfl, ← Nat.pow_mul]
  rw [h3] at h1
  exact ⟨36 + d.zeros % 501, by omega, mul_ten_lt h1 (Nat.le_refl _)⟩
theorem D01.natAbs (d : D01) : d.num.natAbs = d.size := by unfold D01.num; split <;> simp
theorem D01.digits (d : D01) : Lib.nDigits d.num.natAbs ≤ 600 := by
  rw [d.natAbs]
  obtain ⟨k, hk, hl⟩ := d.size_lt
  rcases Nat.eq_zero_or_pos k with h0 | h0
  · subst h0
    rw [show d.size = 0 by simpa using hl, Lib.nDigits_small (by decide)]; omega
  · exact Nat.le_trans (nDigits_lt h0 hl) (by omega)
end Go.Sx
namespace Go.Proofs.YtfbhlfhecmhihaaGreatDoor
open Go Go.Sx
variable {w0 : World} {As : List Ent}
instance : ElC Tryz.prog 23 Nat (cN .u16) 0 2 := ⟨by obtain ⟨i, h1, h2, h3, h4⟩ := (inferInstance : TI Tryz.prog 23 _ _ _).info; exact ⟨i, _, h1, h2, h3, h4, rfl⟩, by decide⟩
theorem qud_len_num {n k : Nat} (h : n < 1000 ^ k) : (qud n).length ≤ k := by
  refine qud_len_lt (Nat.lt_of_lt_of_le h (Nat.pow_le_pow_left (by omega) k))
theorem wholeR_ok (d : D01) [hr : RdIn As d.gv Nat (cN .u16) d.gs] (hd : d.ok) :
    CallsS Tryz.prog w0 36 [.agg d.cells.toArray] As fun u Bs => u = .string ⟨(textI d.num).toArray⟩ ∧ Bs = As := by
  obtain ⟨below, gv, gs, zeros⟩ := d
  obtain ⟨hg, hgl, hz⟩ := hd
  simp only at hg hgl hz
  replace hr : RdIn As gv Nat (cN .u16) gs := hr
  have hdg := D01.digits ⟨below, gv, gs, zeros⟩
  have hna := D01.natAbs ⟨below, gv, gs, zeros⟩
  refine CallsS.rdSl gv fun pg cg hgv => ?_
  subst hgv
  refine CallsS.of_tri Tryz.func36 rfl Tryz.ntmps36 rfl ?_
  show Tri _ _ _ _ (env0 0 [.agg #[.bool below, .slice pg gs.length cg, .int .u16 (zeros : Int)]]) _ _
  (repeat' (first | ((show TL _ _ _ _ (_ :: _) _ _ _; first | refine TL.fa ?_ | refine TL.ua ?_ | (refine TL.rba ?_; intro _) | (refine TL.rra ?_; first | rintro _ _ ⟨rfl, rfl⟩ | rintro _ _ rfl) | refine TL.offa ?_ | refine TL.off0a ?_ | refine TL.gu ?_ | fail)) | (first | refine Stp.h ?_ | refine Post.then_normal ?_ | refine Post.next ?_ | refine Post.block_other rfl ?_) | ((show Tri _ _ _ (.cond _ _ _) _ _ _; first | refine Tri.cTa ?_ | refine Tri.cFa ?_ | refine Tri.condTa ?_ | refine Tri.condFa ?_ | refine Tri.condNTa ?_ | refine Tri.condNFa ?_ | fail))))
  refine TL.call rfl rfl rfl (integerR_ok (n := 0) (by omega) (by omega)) ?_
  rintro _ _ ⟨p, cap, rfl, rfl⟩
  (repeat' (first | ((show TL _ _ _ _ (_ :: _) _ _ _; first | refine TL.fa ?_ | refine TL.ua ?_ | (refine TL.rba ?_; intro _) | (refine TL.rra ?_; first | rintro _ _ ⟨rfl, rfl⟩ | rintro _ _ rfl) | refine TL.offa ?_ | refine TL.off0a ?_ | refine TL.gu ?_ | fail)) | (first | refine Stp.h ?_ | refine Post.then_normal ?_ | refine Post.next ?_ | refine Post.block_other rfl ?_) | ((show Tri _ _ _ (.cond _ _ _) _ _ _; first | refine Tri.cTa ?_ | refine Tri.cFa ?_ | refine Tri.condTa ?_ | refine Tri.condFa ?_ | refine Tri.condNTa ?_ | refine Tri.condNFa ?_ | fail))))
  rename_i b1 b3
  refine Tri.loop (ι := Nat × Option Addr × Nat) (fun s => s.1 ≤ min gs.length 12) (fun s => min gs.length 12 - s.1)
    (fun s => [(1, .pointer (some ⟨b1, 0, none⟩)), (3, .pointer (some ⟨b3, 0, none⟩)), (4, .int .i64 (s.1 : Int))])
    (fun s => .cl b3 [.bool (decide (((groupsD (gs.take s.1) : Nat) : Int) < 0)), .slice s.2.1 (qud ((groupsD (gs.take s.1) : Nat) : Int).natAbs).length s.2.2] 68 :: .ft (rd (cN .i64) (.slice s.2.1 (qud ((groupsD (gs.take s.1) : Nat) : Int).natAbs).length s.2.2) (qud ((groupsD (gs.take s.1) : Nat) : Int).natAbs)) :: .cl b1 [.bool below, .slice pg gs.length cg, .int .u16 (zeros : Int)] 25 :: As)
    (0, p, cap) (by omega) (by (exact Sub.au)) (by show Ents _ (.cl b3 [.bool (decide ((0 : Int) < 0)), .slice p (qud (0 : Int).natAbs).length cap] _ :: .ft (rd (cN .i64) (.slice p (qud (0 : Int).natAbs).length cap) (qud (0 : Int).natAbs)) :: _); (exact Ents.au)) ?_
  rintro ⟨k, pk, ck⟩ hk
  simp only at hk
  have hlt := groupsD_lt gs k
  obtain ⟨m, hm⟩ : ∃ m : Nat, m = groupsD (gs.take k) := ⟨_, rfl⟩
  rw [← hm] at hlt
  have hml := qud_len_num hlt
  show Tri _ _ _ _ [(1, _), (3, _), (4, .int .i64 (k : Int))] (.cl b3 [.bool (decide (((groupsD (gs.take k) : Nat) : Int) < 0)), .slice pk (qud ((groupsD (gs.take k) : Nat) : Int).natAbs).length ck] _ :: .ft (rd (cN .i64) (.slice pk (qud ((groupsD (gs.take k) : Nat) : Int).natAbs).length ck) (qud ((groupsD (gs.take k) : Nat) : Int).natAbs)) :: _) _
  rw [← hm]
  (repeat' (first | ((show TL _ _ _ _ (_ :: _) _ _ _; first | refine TL.fa ?_ | refine TL.ua ?_ | (refine TL.rba ?_; intro _) | (refine TL.rra ?_; first | rintro _ _ ⟨rfl, rfl⟩ | rintro _ _ rfl) | refine TL.offa ?_ | refine TL.off0a ?_ | refine TL.gu ?_ | fail)) | (first | refine Stp.h ?_ | refine Post.then_normal ?_ | refine Post.next ?_ | refine Post.block_other rfl ?_) | ((show Tri _ _ _ (.cond _ _ _) _ _ _; first | refine Tri.cTa ?_ | refine Tri.cFa ?_ | refine Tri.condTa ?_ | refine Tri.condFa ?_ | refine Tri.condNTa ?_ | refine Tri.condNFa ?_ | fail))))
  by_cases hgo : k < gs.length ∧ k < 12
  · obtain ⟨hgo1, hgo2⟩ := hgo
    obtain ⟨g, hgk⟩ : ∃ g, gs[k]? = some g := ⟨_, List.getElem?_eq_getElem hgo1⟩
    have hg9 := hg g (List.mem_of_getElem? hgk)
    have hnew : groupsD (gs.take (k + 1)) = m * 1000 + g % 1000 := by rw [List.take_add_one, hgk, Option.toList_some, groupsD_snoc, hm]
    have hz9 : (((m : Nat) : Int) * 1000 + (g : Int) % 1000) = ((groupsD (gs.take (k + 1)) : Nat) : Int) := by rw [hnew]; omega
    have hl1 : (qud (1000 : Int).natAbs).length ≤ 1 := qud_len_lt (by decide)
    have hl2 : (qud ((g : Int) % 1000).natAbs).length ≤ 1 := qud_len_lt (by omega)
    have hl3 : (qud ((m : Int) * 1000).natAbs).length ≤ 20 := by
      have := qud_len_mul m 1000
      have h4 : (qud 1000).length ≤ 1 := qud_len_lt (by decide)
      rw [show ((m : Int) * 1000).natAbs = m * 1000 by omega]
      omega
    (repeat' (first | ((show TL _ _ _ _ (_ :: _) _ _ _; first | refine TL.fa ?_ | refine TL.ua ?_ | (refine TL.rba ?_; intro _) | (refine TL.rra ?_; first | rintro _ _ ⟨rfl, rfl⟩ | rintro _ _ rfl) | refine TL.offa ?_ | refine TL.off0a ?_ | refine TL.gu ?_ | fail)) | (first | refine Stp.h ?_ | refine Post.then_normal ?_ | refine Post.next ?_ | refine Post.block_other rfl ?_) | ((show Tri _ _ _ (.cond _ _ _) _ _ _; first | refine Tri.cTa ?_ | refine Tri.cFa ?_ | refine Tri.condTa ?_ | refine Tri.condFa ?_ | refine Tri.condNTa ?_ | refine Tri.condNFa ?_ | fail))))
    refine Tri.dr (.take 0 (.take 3 (.take 4 (.take 5 (.take 6 (.take 7 (.take 8 (.take 9 (.all [(1, .all [(2, .all [(10, .all [(11, .all [(12, .done)])])])])]))))))))) ?_
    (repeat' (first | ((show TL _ _ _ _ (_ :: _) _ _ _; first | refine TL.fa ?_ | refine TL.ua ?_ | (refine TL.rba ?_; intro _) | (refine TL.rra ?_; first | rintro _ _ ⟨rfl, rfl⟩ | rintro _ _ rfl) | refine TL.offa ?_ | refine TL.off0a ?_ | refine TL.gu ?_ | fail)) | (first | refine Stp.h ?_ | refine Post.then_normal ?_ | refine Post.next ?_ | refine Post.block_other rfl ?_) | (first | (show TT _ _ _ _ _ _ _ _ _; first | refine TT.takea ?_ | refine TT.takeMa ?_ | refine TT.takeOffa ?_ | refine TT.gu ?_ | fail) | exact TTs.nil | refine TTs.cons ?_ ?_ | (show T1 _ _ _ _ _ _ _ _ _ _; first | refine T1.ua ?_ | (refine T1.rba ?_; intro _) | (refine T1.rra ?_; first | rintro _ _ ⟨rfl, rfl⟩ | rintro _ _ rfl) | refine T1.fa ?_ | refine T1.offa ?_ | refine T1.off0a ?_ | fail) | (show TC _ _ _ _ _ _ _ _ _ _; first | refine TC.goa ?_ | refine TC.fina ?_ | fail)) | ((show Tri _ _ _ (.cond _ _ _) _ _ _; first | refine Tri.cTa ?_ | refine Tri.cFa ?_ | refine Tri.condTa ?_ | refine Tri.condFa ?_ | refine Tri.condNTa ?_ | refine Tri.condNFa ?_ | fail))))
    refine T1.call rfl rfl rfl rfl (integerR_ok (n := 1000) (by omega) (by omega)) ?_
    rintro _ _ ⟨p1, cap1, rfl, rfl⟩
    (repeat' (first | ((show TL _ _ _ _ (_ :: _) _ _ _; first | refine TL.fa ?_ | refine TL.ua ?_ | (refine TL.rba ?_; intro _) | (refine TL.rra ?_; first | rintro _ _ ⟨rfl, rfl⟩ | rintro _ _ rfl) | refine TL.offa ?_ | refine TL.off0a ?_ | refine TL.gu ?_ | fail)) | (first | refine Stp.h ?_ | refine Post.then_normal ?_ | refine Post.next ?_ | refine Post.block_other rfl ?_) | (first | (show TT _ _ _ _ _ _ _ _ _; first | refine TT.takea ?_ | refine TT.takeMa ?_ | refine TT.takeOffa ?_ | refine TT.gu ?_ | fail) | exact TTs.nil | refine TTs.cons ?_ ?_ | (show T1 _ _ _ _ _ _ _ _ _ _; first | refine T1.ua ?_ | (refine T1.rba ?_; intro _) | (refine T1.rra ?_; first | rintro _ _ ⟨rfl, rfl⟩ | rintro _ _ rfl) | refine T1.fa ?_ | refine T1.offa ?_ | refine T1.off0a ?_ | fail) | (show TC _ _ _ _ _ _ _ _ _ _; first | refine TC.goa ?_ | refine TC.fina ?_ | fail)) | ((show Tri _ _ _ (.cond _ _ _) _ _ _; first | refine Tri.cTa ?_ | refine Tri.cFa ?_ | refine Tri.condTa ?_ | refine Tri.condFa ?_ | refine Tri.condNTa ?_ | refine Tri.condNFa ?_ | fail))))
    refine T1.call rfl rfl rfl rfl (timesR_ok (x := (m : Int)) (y := 1000) (by simp only [Int.natAbs_natCast]; omega) (by omega)) ?_
    rintro _ _ ⟨p2, cap2, rfl, rfl⟩
    (repeat' (first | ((show TL _ _ _ _ (_ :: _) _ _ _; first | refine TL.fa ?_ | refine TL.ua ?_ | (refine TL.rba ?_; intro _) | (refine TL.rra ?_; first | rintro _ _ ⟨rfl, rfl⟩ | rintro _ _ rfl) | refine TL.offa ?_ | refine TL.off0a ?_ | refine TL.gu ?_ | fail)) | (first | refine Stp.h ?_ | refine Post.then_normal ?_ | refine Post.next ?_ | refine Post.block_other rfl ?_) | (first | (show TT _ _ _ _ _ _ _ _ _; first | refine TT.takea ?_ | refine TT.takeMa ?_ | refine TT.takeOffa ?_ | refine TT.gu ?_ | fail) | exact TTs.nil | refine TTs.cons ?_ ?_ | (show T1 _ _ _ _ _ _ _ _ _ _; first | refine T1.ua ?_ | (refine T1.rba ?_; intro _) | (refine T1.rra ?_; first | rintro _ _ ⟨rfl, rfl⟩ | rintro _ _ rfl) | refine T1.fa ?_ | refine T1.offa ?_ | refine T1.off0a ?_ | fail) | (show TC _ _ _ _ _ _ _ _ _ _; first | refine TC.goa ?_ | refine TC.fina ?_ | fail)) | ((show Tri _ _ _ (.cond _ _ _) _ _ _; first | refine Tri.cTa ?_ | refine Tri.cFa ?_ | refine Tri.condTa ?_ | refine Tri.condFa ?_ | refine Tri.condNTa ?_ | refine Tri.condNFa ?_ | fail))))
    refine T1.call rfl rfl rfl rfl (integerR_ok (n := (g : Int) % 1000) (by omega) (by omega)) ?_
    rintro _ _ ⟨p3, cap3, rfl, rfl⟩
    (repeat' (first | ((show TL _ _ _ _ (_ :: _) _ _ _; first | refine TL.fa ?_ | refine TL.ua ?_ | (refine TL.rba ?_; intro _) | (refine TL.rra ?_; first | rintro _ _ ⟨rfl, rfl⟩ | rintro _ _ rfl) | refine TL.offa ?_ | refine TL.off0a ?_ | refine TL.gu ?_ | fail)) | (first | refine Stp.h ?_ | refine Post.then_normal ?_ | refine Post.next ?_ | refine Post.block_other rfl ?_) | (first | (show TT _ _ _ _ _ _ _ _ _; first | refine TT.takea ?_ | refine TT.takeMa ?_ | refine TT.takeOffa ?_ | refine TT.gu ?_ | fail) | exact TTs.nil | refine TTs.cons ?_ ?_ | (show T1 _ _ _ _ _ _ _ _ _ _; first | refine T1.ua ?_ | (refine T1.rba ?_; intro _) | (refine T1.rra ?_; first | rintro _ _ ⟨rfl, rfl⟩ | rintro _ _ rfl) | refine T1.fa ?_ | refine T1.offa ?_ | refine T1.off0a ?_ | fail) | (show TC _ _ _ _ _ _ _ _ _ _; first | refine TC.goa ?_ | refine TC.fina ?_ | fail)) | ((show Tri _ _ _ (.cond _ _ _) _ _ _; first | refine Tri.cTa ?_ | refine Tri.cFa ?_ | refine Tri.condTa ?_ | refine Tri.condFa ?_ | refine Tri.condNTa ?_ | refine Tri.condNFa ?_ | fail))))
    refine T1.call rfl rfl rfl rfl (plusR_ok (x := (m : Int) * 1000) (y := (g : Int) % 1000) (by omega) (by omega)) ?_
    rintro _ _ ⟨p4, cap4, rfl, rfl⟩
    rw [hz9]
    (repeat' (first | ((show TL _ _ _ _ (_ :: _) _ _ _; first | refine TL.fa ?_ | refine TL.ua ?_ | (refine TL.rba ?_; intro _) | (refine TL.rra ?_; first | rintro _ _ ⟨rfl, rfl⟩ | rintro _ _ rfl) | refine TL.offa ?_ | refine TL.off0a ?_ | refine TL.gu ?_ | fail)) | (first | refine Stp.h ?_ | refine Post.then_normal ?_ | refine Post.next ?_ | refine Post.block_other rfl ?_) | (first | (show TT _ _ _ _ _ _ _ _ _; first | refine TT.takea ?_ | refine TT.takeMa ?_ | refine TT.takeOffa ?_ | refine TT.gu ?_ | fail) | exact TTs.nil | refine TTs.cons ?_ ?_ | (show T1 _ _ _ _ _ _ _ _ _ _; first | refine T1.ua ?_ | (refine T1.rba ?_; intro _) | (refine T1.rra ?_; first | rintro _ _ ⟨rfl, rfl⟩ | rintro _ _ rfl) | refine T1.fa ?_ | refine T1.offa ?_ | refine T1.off0a ?_ | fail) | (show TC _ _ _ _ _ _ _ _ _ _; first | refine TC.goa ?_ | refine TC.fina ?_ | fail)) | ((show Tri _ _ _ (.cond _ _ _) _ _ _; first | refine Tri.cTa ?_ | refine Tri.cFa ?_ | refine Tri.condTa ?_ | refine Tri.condFa ?_ | refine Tri.condNTa ?_ | refine Tri.condNFa ?_ | fail))))
    exact Post.round (k + 1, p4, cap4) (by simp only; omega) (by simp only; omega) (by (exact Sub.au)) (by (exact Ents.au))
  · have hk' : gs.take k = gs.take 12 := by
      rcases Nat.lt_or_ge k gs.length with h | h
      · rw [show k = 12 by omega]
      · rw [List.take_of_length_le h, List.take_of_length_le (by omega)]
    have hmt : m = groupsD (gs.take 12) := by rw [hm, hk']
    have hL : (qud (10 : Int).natAbs).length ≤ 1 := qud_len_lt (by decide)
    have hpl : (qud ((10 : Int) ^ (zeros % 501)).natAbs).length ≤ 502 := by
      have h1 := qud_len_pw 10 (zeros % 501)
      have h2 : (qud 10).length ≤ 1 := qud_len_lt (by decide)
      have h3 := Nat.mul_le_mul_right (zeros % 501) h2
      rw [Int.natAbs_pow]
      show (qud (10 ^ (zeros % 501))).length ≤ 502
      omega
    have hzs : (zeros : Int) % 501 = ((zeros % 501 : Nat) : Int) := by omega
    have hsz : ((m : Nat) : Int) * (10 : Int) ^ (zeros % 501) = (((⟨below, .slice pg gs.length cg, gs, zeros⟩ : D01).size : Nat) : Int) := by
      rw [hmt]; unfold D01.size; simp [Int.natCast_pow]
    have hml3 : (qud (⟨below, .slice pg gs.length cg, gs, zeros⟩ : D01).size).length ≤ 600 := by
      obtain ⟨k', hk', hl'⟩ := D01.size_lt ⟨below, .slice pg gs.length cg, gs, zeros⟩
      exact qud_len_ten hl' (by omega)
    have hLm : (qud (10 : Int).natAbs).length * (zeros % 501) ≤ 1 * 501 := Nat.mul_le_mul hL (by omega)
    have e1 : (⟨below, .slice pg gs.length cg, gs, zeros⟩ : D01).num.natAbs = valQ (qud (⟨below, .slice pg gs.length cg, gs, zeros⟩ : D01).size) := by rw [valQ_qud]; exact D01.natAbs _
    have e2 : decide ((⟨below, .slice pg gs.length cg, gs, zeros⟩ : D01).num < 0) = (below && decide (valQ (qud (⟨below, .slice pg gs.length cg, gs, zeros⟩ : D01).size) ≠ 0)) := by
      rw [valQ_qud]
      unfold D01.num
      cases below
      · simp
      · rw [Bool.eq_iff_iff]
        simp only [if_true, Bool.true_and, decide_eq_true_eq]
        omega
    rw [hna] at hdg
    generalize hSZ : (⟨below, .slice pg gs.length cg, gs, zeros⟩ : D01).size = SZ at hsz hml3 e1 e2 hdg hna
    rcases (by omega : ¬ k < gs.length ∨ (k < gs.length ∧ ¬ k < 12)) with h8 | ⟨h8, h9⟩
    all_goals
      (repeat' (first | ((show TL _ _ _ _ (_ :: _) _ _ _; first | refine TL.fa ?_ | refine TL.ua ?_ | (refine TL.rba ?_; intro _) | (refine TL.rra ?_; first | rintro _ _ ⟨rfl, rfl⟩ | rintro _ _ rfl) | refine TL.offa ?_ | refine TL.off0a ?_ | refine TL.gu ?_ | fail)) | (first | refine Stp.h ?_ | refine Post.then_normal ?_ | refine Post.next ?_ | refine Post.block_other rfl ?_) | (first | (show TT _ _ _ _ _ _ _ _ _; first | refine TT.takea ?_ | refine TT.takeMa ?_ | refine TT.takeOffa ?_ | refine TT.gu ?_ | fail) | exact TTs.nil | refine TTs.cons ?_ ?_ | (show T1 _ _ _ _ _ _ _ _ _ _; first | refine T1.ua ?_ | (refine T1.rba ?_; intro _) | (refine T1.rra ?_; first | rintro _ _ ⟨rfl, rfl⟩ | rintro _ _ rfl) | refine T1.fa ?_ | refine T1.offa ?_ | refine T1.off0a ?_ | fail) | (show TC _ _ _ _ _ _ _ _ _ _; first | refine TC.goa ?_ | refine TC.fina ?_ | fail)) | ((show Tri _ _ _ (.cond _ _ _) _ _ _; first | refine Tri.cTa ?_ | refine Tri.cFa ?_ | refine Tri.condTa ?_ | refine Tri.condFa ?_ | refine Tri.condNTa ?_ | refine Tri.condNFa ?_ | fail))))
      refine Tri.dr (.take 0 (.take 2 (.take 3 (.take 4 (.take 5 (.all [(1, .all [(6, .all [(7, .all [(8, .done)])])])])))))) ?_
      (repeat' (first | ((show TL _ _ _ _ (_ :: _) _ _ _; first | refine TL.fa ?_ | refine TL.ua ?_ | (refine TL.rba ?_; intro _) | (refine TL.rra ?_; first | rintro _ _ ⟨rfl, rfl⟩ | rintro _ _ rfl) | refine TL.offa ?_ | refine TL.off0a ?_ | refine TL.gu ?_ | fail)) | (first | refine Stp.h ?_ | refine Post.then_normal ?_ | refine Post.next ?_ | refine Post.block_other rfl ?_) | (first | (show TT _ _ _ _ _ _ _ _ _; first | refine TT.takea ?_ | refine TT.takeMa ?_ | refine TT.takeOffa ?_ | refine TT.gu ?_ | fail) | exact TTs.nil | refine TTs.cons ?_ ?_ | (show T1 _ _ _ _ _ _ _ _ _ _; first | refine T1.ua ?_ | (refine T1.rba ?_; intro _) | (refine T1.rra ?_; first | rintro _ _ ⟨rfl, rfl⟩ | rintro _ _ rfl) | refine T1.fa ?_ | refine T1.offa ?_ | refine T1.off0a ?_ | fail) | (show TC _ _ _ _ _ _ _ _ _ _; first | refine TC.goa ?_ | refine TC.fina ?_ | fail)) | ((show Tri _ _ _ (.cond _ _ _) _ _ _; first | refine Tri.cTa ?_ | refine Tri.cFa ?_ | refine Tri.condTa ?_ | refine Tri.condFa ?_ | refine Tri.condNTa ?_ | refine Tri.condNFa ?_ | fail))))
      refine T1.call rfl rfl rfl rfl (integerR_ok (n := 10) (by omega) (by omega)) ?_
      rintro _ _ ⟨p1, cap1, rfl, rfl⟩
      rw [hzs]
      (repeat' (first | ((show TL _ _ _ _ (_ :: _) _ _ _; first | refine TL.fa ?_ | refine TL.ua ?_ | (refine TL.rba ?_; intro _) | (refine TL.rra ?_; first | rintro _ _ ⟨rfl, rfl⟩ | rintro _ _ rfl) | refine TL.offa ?_ | refine TL.off0a ?_ | refine TL.gu ?_ | fail)) | (first | refine Stp.h ?_ | refine Post.then_normal ?_ | refine Post.next ?_ | refine Post.block_other rfl ?_) | (first | (show TT _ _ _ _ _ _ _ _ _; first | refine TT.takea ?_ | refine TT.takeMa ?_ | refine TT.takeOffa ?_ | refine TT.gu ?_ | fail) | exact TTs.nil | refine TTs.cons ?_ ?_ | (show T1 _ _ _ _ _ _ _ _ _ _; first | refine T1.ua ?_ | (refine T1.rba ?_; intro _) | (refine T1.rra ?_; first | rintro _ _ ⟨rfl, rfl⟩ | rintro _ _ rfl) | refine T1.fa ?_ | refine T1.offa ?_ | refine T1.off0a ?_ | fail) | (show TC _ _ _ _ _ _ _ _ _ _; first | refine TC.goa ?_ | refine TC.fina ?_ | fail)) | ((show Tri _ _ _ (.cond _ _ _) _ _ _; first | refine Tri.cTa ?_ | refine Tri.cFa ?_ | refine Tri.condTa ?_ | refine Tri.condFa ?_ | refine Tri.condNTa ?_ | refine Tri.condNFa ?_ | fail))))
      refine T1.call rfl rfl rfl rfl (raisedR_ok (x := 10) (n := zeros % 501) (by omega) (by omega) (by omega)) ?_
      rintro _ _ ⟨p2, cap2, rfl, rfl⟩
      (repeat' (first | ((show TL _ _ _ _ (_ :: _) _ _ _; first | refine TL.fa ?_ | refine TL.ua ?_ | (refine TL.rba ?_; intro _) | (refine TL.rra ?_; first | rintro _ _ ⟨rfl, rfl⟩ | rintro _ _ rfl) | refine TL.offa ?_ | refine TL.off0a ?_ | refine TL.gu ?_ | fail)) | (first | refine Stp.h ?_ | refine Post.then_normal ?_ | refine Post.next ?_ | refine Post.block_other rfl ?_) | (first | (show TT _ _ _ _ _ _ _ _ _; first | refine TT.takea ?_ | refine TT.takeMa ?_ | refine TT.takeOffa ?_ | refine TT.gu ?_ | fail) | exact TTs.nil | refine TTs.cons ?_ ?_ | (show T1 _ _ _ _ _ _ _ _ _ _; first | refine T1.ua ?_ | (refine T1.rba ?_; intro _) | (refine T1.rra ?_; first | rintro _ _ ⟨rfl, rfl⟩ | rintro _ _ rfl) | refine T1.fa ?_ | refine T1.offa ?_ | refine T1.off0a ?_ | fail) | (show TC _ _ _ _ _ _ _ _ _ _; first | refine TC.goa ?_ | refine TC.fina ?_ | fail)) | ((show Tri _ _ _ (.cond _ _ _) _ _ _; first | refine Tri.cTa ?_ | refine Tri.cFa ?_ | refine Tri.condTa ?_ | refine Tri.condFa ?_ | refine Tri.condNTa ?_ | refine Tri.condNFa ?_ | fail))))
      refine T1.call rfl rfl rfl rfl (timesR_ok (x := (m : Int)) (y := (10 : Int) ^ (zeros % 501)) (by simp only [Int.natAbs_natCast]; omega) (by omega)) ?_
      rintro _ _ ⟨p3, cap3, rfl, rfl⟩
      rw [hsz]
      (repeat' (first | ((show TL _ _ _ _ (_ :: _) _ _ _; first | refine TL.fa ?_ | refine TL.ua ?_ | (refine TL.rba ?_; intro _) | (refine TL.rra ?_; first | rintro _ _ ⟨rfl, rfl⟩ | rintro _ _ rfl) | refine TL.offa ?_ | refine TL.off0a ?_ | refine TL.gu ?_ | fail)) | (first | refine Stp.h ?_ | refine Post.then_normal ?_ | refine Post.next ?_ | refine Post.block_other rfl ?_) | (first | (show TT _ _ _ _ _ _ _ _ _; first | refine TT.takea ?_ | refine TT.takeMa ?_ | refine TT.takeOffa ?_ | refine TT.gu ?_ | fail) | exact TTs.nil | refine TTs.cons ?_ ?_ | (show T1 _ _ _ _ _ _ _ _ _ _; first | refine T1.ua ?_ | (refine T1.rba ?_; intro _) | (refine T1.rra ?_; first | rintro _ _ ⟨rfl, rfl⟩ | rintro _ _ rfl) | refine T1.fa ?_ | refine T1.offa ?_ | refine T1.off0a ?_ | fail) | (show TC _ _ _ _ _ _ _ _ _ _; first | refine TC.goa ?_ | refine TC.fina ?_ | fail)) | ((show Tri _ _ _ (.cond _ _ _) _ _ _; first | refine Tri.cTa ?_ | refine Tri.cFa ?_ | refine Tri.condTa ?_ | refine Tri.condFa ?_ | refine Tri.condNTa ?_ | refine Tri.condNFa ?_ | fail))))
      refine TL.call rfl rfl rfl (made_ok (xs := qud SZ) (z := (⟨below, .slice pg gs.length cg, gs, zeros⟩ : D01).num) (qud_small _) (by omega) e1 e2) ?_
      rintro _ _ ⟨p4, cap4, rfl, rfl⟩
      generalize hNUM : (⟨below, .slice pg gs.length cg, gs, zeros⟩ : D01).num = NUM at hdg hna e1 e2 ⊢
      (repeat' (first | ((show TL _ _ _ _ (_ :: _) _ _ _; first | refine TL.fa ?_ | refine TL.ua ?_ | (refine TL.rba ?_; intro _) | (refine TL.rra ?_; first | rintro _ _ ⟨rfl, rfl⟩ | rintro _ _ rfl) | refine TL.offa ?_ | refine TL.off0a ?_ | refine TL.gu ?_ | fail)) | (first | refine Stp.h ?_ | refine Post.then_normal ?_ | refine Post.next ?_ | refine Post.block_other rfl ?_) | (first | (show TT _ _ _ _ _ _ _ _ _; first | refine TT.takea ?_ | refine TT.takeMa ?_ | refine TT.takeOffa ?_ | refine TT.gu ?_ | fail) | exact TTs.nil | refine TTs.cons ?_ ?_ | (show T1 _ _ _ _ _ _ _ _ _ _; first | refine T1.ua ?_ | (refine T1.rba ?_; intro _) | (refine T1.rra ?_; first | rintro _ _ ⟨rfl, rfl⟩ | rintro _ _ rfl) | refine T1.fa ?_ | refine T1.offa ?_ | refine T1.off0a ?_ | fail) | (show TC _ _ _ _ _ _ _ _ _ _; first | refine TC.goa ?_ | refine TC.fina ?_ | fail)) | ((show Tri _ _ _ (.cond _ _ _) _ _ _; first | refine Tri.cTa ?_ | refine Tri.cFa ?_ | refine Tri.condTa ?_ | refine Tri.condFa ?_ | refine Tri.condNTa ?_ | refine Tri.condNFa ?_ | fail))))
      refine TL.call rfl rfl rfl (outR_ok (z := NUM) (by rw [hna]; omega)) ?_
      rintro _ _ ⟨rfl, rfl⟩
      rw [outW_ok (by rw [hna]; exact hdg)]
      (repeat' (first | ((show TL _ _ _ _ (_ :: _) _ _ _; first | refine TL.fa ?_ | refine TL.ua ?_ | (refine TL.rba ?_; intro _) | (refine TL.rra ?_; first | rintro _ _ ⟨rfl, rfl⟩ | rintro _ _ rfl) | refine TL.offa ?_ | refine TL.off0a ?_ | refine TL.gu ?_ | fail)) | (first | refine Stp.h ?_ | refine Post.then_normal ?_ | refine Post.next ?_ | refine Post.block_other rfl ?_) | (first | (show TT _ _ _ _ _ _ _ _ _; first | refine TT.takea ?_ | refine TT.takeMa ?_ | refine TT.takeOffa ?_ | refine TT.gu ?_ | fail) | exact TTs.nil | refine TTs.cons ?_ ?_ | (show T1 _ _ _ _ _ _ _ _ _ _; first | refine T1.ua ?_ | (refine T1.rba ?_; intro _) | (refine T1.rra ?_; first | rintro _ _ ⟨rfl, rfl⟩ | rintro _ _ rfl) | refine T1.fa ?_ | refine T1.offa ?_ | refine T1.off0a ?_ | fail) | (show TC _ _ _ _ _ _ _ _ _ _; first | refine TC.goa ?_ | refine TC.fina ?_ | fail)) | ((show Tri _ _ _ (.cond _ _ _) _ _ _; first | refine Tri.cTa ?_ | refine Tri.cFa ?_ | refine Tri.condTa ?_ | refine Tri.condFa ?_ | refine Tri.condNTa ?_ | refine Tri.condNFa ?_ | fail))))
      ((try refine Post.ret_normal ?_); first | refine Post.r1a ?_ | refine Post.r2a ?_ | refine Post.r3a ?_ | refine Post.r0a ?_ | fail)
      exact ⟨_, ⟨rfl, rfl⟩, by (exact Ents.au)⟩
end Go.Proofs.YtfbhlfhecmhihaaGreatDoor
