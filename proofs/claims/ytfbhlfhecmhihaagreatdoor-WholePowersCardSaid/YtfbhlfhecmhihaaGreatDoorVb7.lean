/- Walks: the reference on whole numbers: powers and roots. -/
import Derived.Test.YtfbhlfhecmhihaaGreatDoorVb6
namespace Go.Sx
open Go
theorem T1.ents {P : Program} {N : Ctx} {w0 : World} {ops : Array Oper} {Rs : RsP} {i : Nat} {t : Tree} {e : Env} {As Bs : List Ent} {Q : Exit → Act → World → Prop} (h : Ents As Bs) (k : T1 P N w0 ops Rs i t e Bs Q) : T1 P N w0 ops Rs i t e As Q := by
  unfold T1 at k ⊢
  exact fun h1 fuel l hd hok a w ha hs => k h1 fuel l hd hok a w ha (h w0 w hs)
/-- the digit at place j of a root r, and the trial with another -/
theorem floor_trial {r j M V : Nat} (hV : V = 10000 ^ (j + 1) * (r / 10000 ^ (j + 1))) (hM : M < 10000) : (V + 10000 ^ j * M ≤ r ↔ M ≤ r / 10000 ^ j % 10000) := by
  have h1 := Nat.div_add_mod r (10000 ^ j)
  have h2 := Nat.mod_lt r (Nat.pow_pos (n := j) (show 0 < 10000 by omega))
  have h3 : r / 10000 ^ (j + 1) = r / 10000 ^ j / 10000 := by rw [Nat.pow_succ, Nat.div_div_eq_div_mul]
  have h4 := Nat.div_add_mod (r / 10000 ^ j) 10000
  have hV' : V = 10000 ^ j * (10000 * (r / 10000 ^ j / 10000)) := by rw [hV, h3, Nat.pow_succ, Nat.mul_assoc]
  have hVM : V + 10000 ^ j * M = 10000 ^ j * (10000 * (r / 10000 ^ j / 10000) + M) := by rw [hV', ← Nat.mul_add]
  rw [hVM]
  constructor
  · intro h
    have h5 : 10000 ^ j * (10000 * (r / 10000 ^ j / 10000) + M) < 10000 ^ j * (r / 10000 ^ j + 1) := by rw [Nat.mul_add _ (r / 10000 ^ j) 1]; omega
    have h6 := Nat.lt_of_mul_lt_mul_left h5
    omega
  · intro h
    have h5 : 10000 ^ j * (10000 * (r / 10000 ^ j / 10000) + M) ≤ 10000 ^ j * (r / 10000 ^ j) := Nat.mul_le_mul_left _ (by omega)
    omega
theorem floor_small {a k n : Nat} (hk : 0 < k) (h : (qud a).length ≤ n * k) : rootN a k < 10000 ^ n := by
  have h1 := Nat.lt_of_lt_of_le (qud_lt_pow a) (Nat.pow_le_pow_right (n := 10000) (by omega) h)
  rw [Nat.pow_mul] at h1
  exact Nat.lt_of_not_le fun h2 => absurd (Nat.lt_of_le_of_lt (Nat.le_trans (Nat.pow_le_pow_left h2 k) (rootN_pow hk)) h1) (Nat.lt_irrefl _)
theorem floor_le {a k p : Nat} (hk : 0 < k) : p ^ k ≤ a ↔ p ≤ rootN a k := ⟨rootN_max hk, fun h => Nat.le_trans (Nat.pow_le_pow_left h k) (rootN_pow hk)⟩
end Go.Sx
namespace Go.Proofs.YtfbhlfhecmhihaaGreatDoor
open Go Go.Sx
variable {w0 : World} {As : List Ent}
theorem orderN_ok {v o : Value} {x : Int} {n : Nat} [hf : RdIn As v Nat (cN .i64) (qud x.natAbs)] [hg : FtIn As o Nat (cN .i64) (qud n)] (ha : (qud x.natAbs).length ≤ 10000000) (hb : (qud n).length ≤ 10000000) :
    CallsS Tryz.prog w0 57 [.agg #[.bool (decide (x < 0)), v], .agg #[.bool false, o]] As fun u Bs => u = .int .i64 (signI (x - (n : Int))) ∧ Bs = As := by
  haveI hg' : FtIn As o Nat (cN .i64) (qud (n : Int).natAbs) := hg
  have h := orderP_ok (w0 := w0) (As := As) (v := v) (o := o) (x := x) (y := (n : Int)) ha hb
  rw [show decide ((n : Int) < 0) = false by rw [decide_eq_false_iff_not]; omega] at h
  exact h
theorem floorR_ok {v : Value} {a k : Nat} [hf : FtIn As v Nat (cN .i64) (qud a)] (ha : (qud a).length ≤ 10000) (hk0 : 0 < k) (hk : k ≤ 100) :
    CallsS Tryz.prog w0 72 [.agg #[.bool false, v], .int .i64 (k : Int)] As (PlainR As (rootN a k : Nat)) := by
  refine CallsS.rdSl v fun pv cv hv => ?_
  subst hv
  obtain ⟨n, hn⟩ : ∃ n, n = ((qud a).length + k - 1) / k := ⟨_, rfl⟩
  have hnl : (qud a).length ≤ n * k := by
    have h1 := Nat.div_add_mod ((qud a).length + k - 1) k
    have h2 := Nat.mod_lt ((qud a).length + k - 1) hk0
    rw [← hn, Nat.mul_comm] at h1
    omega
  have hnk : n * k ≤ 20000 := by
    have h1 := Nat.div_mul_le_self ((qud a).length + k - 1) k
    rw [← hn] at h1
    omega
  have hn1 : n ≤ 20000 := Nat.le_trans (Nat.le_mul_of_pos_right n hk0) hnk
  have hrl : (List.replicate n 0).length = n := List.length_replicate
  obtain ⟨r, hr⟩ : ∃ r, r = rootN a k := ⟨_, rfl⟩
  have hrn : r < 10000 ^ n := by rw [hr]; exact floor_small hk0 hnl
  refine CallsS.of_tri Tryz.func72 rfl Tryz.ntmps72 rfl ?_
  (repeat' (first | ((show TL _ _ _ _ (_ :: _) _ _ _; first | refine TL.fa ?_ | refine TL.ua ?_ | (refine TL.rba ?_; intro _) | (refine TL.rra ?_; first | rintro _ _ ⟨rfl, rfl⟩ | rintro _ _ rfl) | refine TL.offa ?_ | refine TL.off0a ?_ | refine TL.gu ?_ | fail)) | (first | refine Stp.h ?_ | refine Post.then_normal ?_ | refine Post.next ?_ | refine Post.block_other rfl ?_) | ((show Tri _ _ _ (.cond _ _ _) _ _ _; first | refine Tri.cTa ?_ | refine Tri.cFa ?_ | refine Tri.condTa ?_ | refine Tri.condFa ?_ | refine Tri.condNTa ?_ | refine Tri.condNFa ?_ | fail))))
  rw [show ((((qud a).length + k - 1 : Nat) : Int) / (k : Int)) = (n : Int) by rw [hn, Int.natCast_ediv], ← hn]
  rename_i b2 b4 sv
  refine Tri.loop (ι := Nat × List Nat) (fun s => s.1 ≤ n ∧ s.2.length = n ∧ (∀ x ∈ s.2, x < 10000) ∧ valQ (s.2.take s.1) = 0 ∧ valQ s.2 = 10000 ^ s.1 * (r / 10000 ^ s.1)) (fun s => s.1)
    (fun s => [(1, .int .i64 (k : Int)), (2, .pointer (some ⟨b2, 0, none⟩)), (4, .pointer (some ⟨b4, 0, none⟩)), (6, sv), (7, .int .i64 ((s.1 : Int) - 1))])
    (fun s => .ow (cN .i64) 3 sv s.2 :: .cl b2 [.bool false, .slice pv (qud a).length cv] 68 :: .cl b4 [.bool false, .slice none 0 0] 68 :: As)
    (n, List.replicate n 0) ⟨Nat.le_refl _, hrl, small_repQ _, by rw [List.take_of_length_le (by rw [hrl]; exact Nat.le_refl _)]; exact valQ_replicate n, by rw [valQ_replicate, Nat.div_eq_of_lt hrn, Nat.mul_zero]⟩ (by (exact Sub.au)) (by (exact Ents.au)) ?_
  rintro ⟨j, xs⟩ ⟨hj, hxl, hxs, hz, hval⟩
  simp only at hj hxl hxs hz hval
  cases j with
  | zero =>
    rw [Nat.pow_zero, Nat.one_mul, Nat.div_one] at hval
    have hp0 : decide ((r : Int) < 0) = (false && decide (valQ xs ≠ 0)) := by rw [Bool.false_and, decide_eq_false_iff_not]; omega
    show Tri _ _ _ _ [(1, .int .i64 (k : Int)), (2, .pointer (some ⟨b2, 0, none⟩)), (4, .pointer (some ⟨b4, 0, none⟩)), (6, sv), (7, .int .i64 (((0 : Nat) : Int) - 1))] (.ow (cN .i64) 3 sv xs :: _) _
    rw [show ((0 : Nat) : Int) - 1 = -1 from rfl, ← hr]
    (repeat' (first | ((show TL _ _ _ _ (_ :: _) _ _ _; first | refine TL.fa ?_ | refine TL.ua ?_ | (refine TL.rba ?_; intro _) | (refine TL.rra ?_; first | rintro _ _ ⟨rfl, rfl⟩ | rintro _ _ rfl) | refine TL.offa ?_ | refine TL.off0a ?_ | refine TL.gu ?_ | fail)) | (first | refine Stp.h ?_ | refine Post.then_normal ?_ | refine Post.next ?_ | refine Post.block_other rfl ?_) | ((show Tri _ _ _ (.cond _ _ _) _ _ _; first | refine Tri.cTa ?_ | refine Tri.cFa ?_ | refine Tri.condTa ?_ | refine Tri.condFa ?_ | refine Tri.condNTa ?_ | refine Tri.condNFa ?_ | fail))))
    refine TL.ents Ents.freeze ?_
    refine TL.call rfl rfl rfl (made_ok (xs := xs) (z := (r : Int)) hxs (by omega) (by rw [hval]; rfl) hp0) ?_
    rintro _ _ ⟨p, cap, rfl, rfl⟩
    (repeat' (first | ((show TL _ _ _ _ (_ :: _) _ _ _; first | refine TL.fa ?_ | refine TL.ua ?_ | (refine TL.rba ?_; intro _) | (refine TL.rra ?_; first | rintro _ _ ⟨rfl, rfl⟩ | rintro _ _ rfl) | refine TL.offa ?_ | refine TL.off0a ?_ | refine TL.gu ?_ | fail)) | (first | refine Stp.h ?_ | refine Post.then_normal ?_ | refine Post.next ?_ | refine Post.block_other rfl ?_) | ((show Tri _ _ _ (.cond _ _ _) _ _ _; first | refine Tri.cTa ?_ | refine Tri.cFa ?_ | refine Tri.condTa ?_ | refine Tri.condFa ?_ | refine Tri.condNTa ?_ | refine Tri.condNFa ?_ | fail))))
    ((try refine Post.ret_normal ?_); first | refine Post.r1a ?_ | refine Post.r2a ?_ | refine Post.r3a ?_ | refine Post.r0a ?_ | fail)
    exact ⟨_, ⟨p, cap, rfl, rfl⟩, by (exact Ents.au)⟩
  | succ j =>
    have hxj : xs[j]? = some 0 := by
      obtain ⟨d, hd⟩ : ∃ d, xs[j]? = some d := ⟨_, List.getElem?_eq_getElem (by omega)⟩
      rw [valQ_take hd] at hz
      have h1 : 10000 ^ j * d = 0 := by omega
      rcases Nat.mul_eq_zero.1 h1 with h2 | h2
      · exact absurd h2 (Nat.ne_of_gt (Nat.pow_pos (by omega)))
      · rw [hd, h2]
    have hzj : valQ (xs.take j) = 0 := by rw [valQ_take hxj] at hz; omega
    have hset0 : xs.set j 0 = xs := by
      apply List.ext_getElem?
      intro i
      rw [List.getElem?_set]
      split
      · rename_i h; subst h; rw [if_pos (by omega), hxj]
      · rfl
    obtain ⟨D, hD⟩ : ∃ D, D = r / 10000 ^ j % 10000 := ⟨_, rfl⟩
    have hD9 : D < 10000 := by rw [hD]; exact Nat.mod_lt _ (by omega)
    have hvs : ∀ M, valQ (xs.set j M) = valQ xs + 10000 ^ j * M := fun M => by have := valQ_set (g := M) hxj; omega
    have hss : ∀ M, M < 10000 → ∀ x ∈ xs.set j M, x < 10000 := fun M hM => small_setQ hxs hM
    have hsl : ∀ M, (xs.set j M).length = n := fun M => by rw [List.length_set, hxl]
    show Tri _ _ _ _ [(1, .int .i64 (k : Int)), (2, .pointer (some ⟨b2, 0, none⟩)), (4, .pointer (some ⟨b4, 0, none⟩)), (6, sv), (7, .int .i64 (((j + 1 : Nat) : Int) - 1))] (.ow (cN .i64) 3 sv xs :: _) _
    rw [show ((j + 1 : Nat) : Int) - 1 = (j : Int) by omega]
    (repeat' (first | ((show TL _ _ _ _ (_ :: _) _ _ _; first | refine TL.fa ?_ | refine TL.ua ?_ | (refine TL.rba ?_; intro _) | (refine TL.rra ?_; first | rintro _ _ ⟨rfl, rfl⟩ | rintro _ _ rfl) | refine TL.offa ?_ | refine TL.off0a ?_ | refine TL.gu ?_ | fail)) | (first | refine Stp.h ?_ | refine Post.then_normal ?_ | refine Post.next ?_ | refine Post.block_other rfl ?_) | ((show Tri _ _ _ (.cond _ _ _) _ _ _; first | refine Tri.cTa ?_ | refine Tri.cFa ?_ | refine Tri.condTa ?_ | refine Tri.condFa ?_ | refine Tri.condNTa ?_ | refine Tri.condNFa ?_ | fail))))
    refine Tri.loop (ι := Nat × Nat × Nat) (fun s => s.1 ≤ D ∧ D < s.2.1 ∧ s.2.1 ≤ 10000 ∧ s.2.2 < 10000) (fun s => s.2.1 - s.1)
      (fun s => [(1, .int .i64 (k : Int)), (2, .pointer (some ⟨b2, 0, none⟩)), (4, .pointer (some ⟨b4, 0, none⟩)), (6, sv), (7, .int .i64 (j : Int)), (8, .int .i64 (s.1 : Int)), (9, .int .i64 (s.2.1 : Int))])
      (fun s => .ow (cN .i64) 3 sv (xs.set j s.2.2) :: .cl b2 [.bool false, .slice pv (qud a).length cv] 68 :: .cl b4 [.bool false, .slice none 0 0] 68 :: As)
      (0, 10000, 0) ⟨Nat.zero_le _, hD9, Nat.le_refl _, by simp only; omega⟩ (by (exact Sub.au)) (by simp only; rw [hset0]; (exact Ents.au)) ?_
    rintro ⟨lo, hi, e⟩ ⟨hlo, hhi, hhi9, he9⟩
    simp only at hlo hhi hhi9 he9
    have hsle := hsl e
    show Tri _ _ _ _ [(1, .int .i64 (k : Int)), (2, .pointer (some ⟨b2, 0, none⟩)), (4, .pointer (some ⟨b4, 0, none⟩)), (6, sv), (7, .int .i64 (j : Int)), (8, .int .i64 (lo : Int)), (9, .int .i64 (hi : Int))] (.ow (cN .i64) 3 sv (xs.set j e) :: _) _
    (repeat' (first | ((show TL _ _ _ _ (_ :: _) _ _ _; first | refine TL.fa ?_ | refine TL.ua ?_ | (refine TL.rba ?_; intro _) | (refine TL.rra ?_; first | rintro _ _ ⟨rfl, rfl⟩ | rintro _ _ rfl) | refine TL.offa ?_ | refine TL.off0a ?_ | refine TL.gu ?_ | fail)) | (first | refine Stp.h ?_ | refine Post.then_normal ?_ | refine Post.next ?_ | refine Post.block_other rfl ?_) | ((show Tri _ _ _ (.cond _ _ _) _ _ _; first | refine Tri.cTa ?_ | refine Tri.cFa ?_ | refine Tri.condTa ?_ | refine Tri.condFa ?_ | refine Tri.condNTa ?_ | refine Tri.condNFa ?_ | fail))))
    by_cases hgap : 1 < hi - lo
    · obtain ⟨M, hM⟩ : ∃ M, M = (lo + hi) / 2 := ⟨_, rfl⟩
      have hM1 : lo < M := by omega
      have hM2 : M < hi := by omega
      have hM9 : M < 10000 := by omega
      have hslM := hsl M
      have hssM := hss M hM9
      have hvM := hvs M
      obtain ⟨Pv, hPv⟩ : ∃ Pv, Pv = valQ xs + 10000 ^ j * M := ⟨_, rfl⟩
      rw [← hPv] at hvM
      have hPl : (qud Pv).length ≤ n := by rw [← hvM]; exact qud_len_lt (by have := valQ_lt hssM; rwa [hslM] at this)
      have hPk : (qud Pv).length * k ≤ 20000 := Nat.le_trans (Nat.mul_le_mul_right k hPl) hnk
      have hPw : (qud ((Pv : Int) ^ k).natAbs).length ≤ 30000 := by
        have := qud_len_pw Pv k
        rw [Int.natAbs_pow]
        exact Nat.le_trans this (by omega)
      have hp0 : decide ((Pv : Int) < 0) = (false && decide (valQ (xs.set j M) ≠ 0)) := by rw [Bool.false_and, decide_eq_false_iff_not]; omega
      have htr : signI ((Pv : Int) ^ k - (a : Int)) ≤ 0 ↔ M ≤ D := by
        rw [hD, ← floor_trial (r := r) (V := valQ xs) hval hM9, ← hPv, hr, ← floor_le hk0]
        have e2 : (Pv : Int) ^ k = ((Pv ^ k : Nat) : Int) := (Int.natCast_pow Pv k).symm
        rw [e2]
        generalize Pv ^ k = Z
        unfold signI
        split
        · omega
        · split <;> omega
      have hMr : (xs.set j M)[j]? = some M := by rw [List.getElem?_set, if_pos rfl, if_pos (by omega)]
      (repeat' (first | ((show TL _ _ _ _ (_ :: _) _ _ _; first | refine TL.fa ?_ | refine TL.ua ?_ | (refine TL.rba ?_; intro _) | (refine TL.rra ?_; first | rintro _ _ ⟨rfl, rfl⟩ | rintro _ _ rfl) | refine TL.offa ?_ | refine TL.off0a ?_ | refine TL.gu ?_ | fail)) | (first | refine Stp.h ?_ | refine Post.then_normal ?_ | refine Post.next ?_ | refine Post.block_other rfl ?_) | ((show Tri _ _ _ (.cond _ _ _) _ _ _; first | refine Tri.cTa ?_ | refine Tri.cFa ?_ | refine Tri.condTa ?_ | refine Tri.condFa ?_ | refine Tri.condNTa ?_ | refine Tri.condNFa ?_ | fail))))
      rw [show ((lo : Int) + (hi : Int)) / 2 = (M : Int) by omega]
      iterate 2 (first | ((show TL _ _ _ _ (_ :: _) _ _ _; first | refine TL.fa ?_ | refine TL.ua ?_ | (refine TL.rba ?_; intro _) | (refine TL.rra ?_; first | rintro _ _ ⟨rfl, rfl⟩ | rintro _ _ rfl) | refine TL.offa ?_ | refine TL.off0a ?_ | refine TL.gu ?_ | fail)) | (first | refine Stp.h ?_ | refine Post.then_normal ?_ | refine Post.next ?_ | refine Post.block_other rfl ?_))
      rw [List.set_set]
      (repeat' (first | ((show TL _ _ _ _ (_ :: _) _ _ _; first | refine TL.fa ?_ | refine TL.ua ?_ | (refine TL.rba ?_; intro _) | (refine TL.rra ?_; first | rintro _ _ ⟨rfl, rfl⟩ | rintro _ _ rfl) | refine TL.offa ?_ | refine TL.off0a ?_ | refine TL.gu ?_ | fail)) | (first | refine Stp.h ?_ | refine Post.then_normal ?_ | refine Post.next ?_ | refine Post.block_other rfl ?_) | (first | (show TT _ _ _ _ _ _ _ _ _; first | refine TT.takea ?_ | refine TT.takeMa ?_ | refine TT.takeOffa ?_ | refine TT.gu ?_ | fail) | exact TTs.nil | refine TTs.cons ?_ ?_ | (show T1 _ _ _ _ _ _ _ _ _ _; first | refine T1.ua ?_ | (refine T1.rba ?_; intro _) | (refine T1.rra ?_; first | rintro _ _ ⟨rfl, rfl⟩ | rintro _ _ rfl) | refine T1.fa ?_ | refine T1.offa ?_ | refine T1.off0a ?_ | fail) | (show TC _ _ _ _ _ _ _ _ _ _; first | refine TC.goa ?_ | refine TC.fina ?_ | fail)) | ((show Tri _ _ _ (.cond _ _ _) _ _ _; first | refine Tri.cTa ?_ | refine Tri.cFa ?_ | refine Tri.condTa ?_ | refine Tri.condFa ?_ | refine Tri.condNTa ?_ | refine Tri.condNFa ?_ | fail))))
      refine Tri.mid (fun e' As' => e' = [(1, .int .i64 (k : Int)), (2, .pointer (some ⟨b2, 0, none⟩)), (4, .pointer (some ⟨b4, 0, none⟩)), (6, sv), (7, .int .i64 (j : Int)), (8, .int .i64 (lo : Int)), (9, .int .i64 (hi : Int)), (45, .bool (decide (signI ((Pv : Int) ^ k - (a : Int)) ≤ 0)))] ∧
        As' = .ow (cN .i64) 3 sv (xs.set j M) :: .cl b2 [.bool false, .slice pv (qud a).length cv] 68 :: .cl b4 [.bool false, .slice none 0 0] 68 :: As) ?_ ?_
      · refine Tri.dr (.take 1 (.take 4 (.take 6 (.all [(0, .all [(2, .all [(3, .all [(5, .all [(7, .take 8 (.done))])])])])])))) ?_
        (repeat' (first | ((show TL _ _ _ _ (_ :: _) _ _ _; first | refine TL.fa ?_ | refine TL.ua ?_ | (refine TL.rba ?_; intro _) | (refine TL.rra ?_; first | rintro _ _ ⟨rfl, rfl⟩ | rintro _ _ rfl) | refine TL.offa ?_ | refine TL.off0a ?_ | refine TL.gu ?_ | fail)) | (first | refine Stp.h ?_ | refine Post.then_normal ?_ | refine Post.next ?_ | refine Post.block_other rfl ?_) | (first | (show TT _ _ _ _ _ _ _ _ _; first | refine TT.takea ?_ | refine TT.takeMa ?_ | refine TT.takeOffa ?_ | refine TT.gu ?_ | fail) | exact TTs.nil | refine TTs.cons ?_ ?_ | (show T1 _ _ _ _ _ _ _ _ _ _; first | refine T1.ua ?_ | (refine T1.rba ?_; intro _) | (refine T1.rra ?_; first | rintro _ _ ⟨rfl, rfl⟩ | rintro _ _ rfl) | refine T1.fa ?_ | refine T1.offa ?_ | refine T1.off0a ?_ | fail) | (show TC _ _ _ _ _ _ _ _ _ _; first | refine TC.goa ?_ | refine TC.fina ?_ | fail)) | ((show Tri _ _ _ (.cond _ _ _) _ _ _; first | refine Tri.cTa ?_ | refine Tri.cFa ?_ | refine Tri.condTa ?_ | refine Tri.condFa ?_ | refine Tri.condNTa ?_ | refine Tri.condNFa ?_ | fail))))
        refine T1.ents Ents.freeze ?_
        refine T1.call rfl rfl rfl rfl (made_ok (xs := xs.set j M) (z := (Pv : Int)) hssM (by omega) (by rw [hvM]; rfl) hp0) ?_
        rintro _ _ ⟨p, cap, rfl, rfl⟩
        (repeat' (first | ((show TL _ _ _ _ (_ :: _) _ _ _; first | refine TL.fa ?_ | refine TL.ua ?_ | (refine TL.rba ?_; intro _) | (refine TL.rra ?_; first | rintro _ _ ⟨rfl, rfl⟩ | rintro _ _ rfl) | refine TL.offa ?_ | refine TL.off0a ?_ | refine TL.gu ?_ | fail)) | (first | refine Stp.h ?_ | refine Post.then_normal ?_ | refine Post.next ?_ | refine Post.block_other rfl ?_) | (first | (show TT _ _ _ _ _ _ _ _ _; first | refine TT.takea ?_ | refine TT.takeMa ?_ | refine TT.takeOffa ?_ | refine TT.gu ?_ | fail) | exact TTs.nil | refine TTs.cons ?_ ?_ | (show T1 _ _ _ _ _ _ _ _ _ _; first | refine T1.ua ?_ | (refine T1.rba ?_; intro _) | (refine T1.rra ?_; first | rintro _ _ ⟨rfl, rfl⟩ | rintro _ _ rfl) | refine T1.fa ?_ | refine T1.offa ?_ | refine T1.off0a ?_ | fail) | (show TC _ _ _ _ _ _ _ _ _ _; first | refine TC.goa ?_ | refine TC.fina ?_ | fail)) | ((show Tri _ _ _ (.cond _ _ _) _ _ _; first | refine Tri.cTa ?_ | refine Tri.cFa ?_ | refine Tri.condTa ?_ | refine Tri.condFa ?_ | refine Tri.condNTa ?_ | refine Tri.condNFa ?_ | fail))))
        refine T1.call rfl rfl rfl rfl (raisedR_ok (x := (Pv : Int)) (n := k) (by rw [Int.natAbs_natCast]; omega) (by rw [Int.natAbs_natCast]; omega) (by omega)) ?_
        rintro _ _ ⟨p2, cap2, rfl, rfl⟩
        (repeat' (first | ((show TL _ _ _ _ (_ :: _) _ _ _; first | refine TL.fa ?_ | refine TL.ua ?_ | (refine TL.rba ?_; intro _) | (refine TL.rra ?_; first | rintro _ _ ⟨rfl, rfl⟩ | rintro _ _ rfl) | refine TL.offa ?_ | refine TL.off0a ?_ | refine TL.gu ?_ | fail)) | (first | refine Stp.h ?_ | refine Post.then_normal ?_ | refine Post.next ?_ | refine Post.block_other rfl ?_) | (first | (show TT _ _ _ _ _ _ _ _ _; first | refine TT.takea ?_ | refine TT.takeMa ?_ | refine TT.takeOffa ?_ | refine TT.gu ?_ | fail) | exact TTs.nil | refine TTs.cons ?_ ?_ | (show T1 _ _ _ _ _ _ _ _ _ _; first | refine T1.ua ?_ | (refine T1.rba ?_; intro _) | (refine T1.rra ?_; first | rintro _ _ ⟨rfl, rfl⟩ | rintro _ _ rfl) | refine T1.fa ?_ | refine T1.offa ?_ | refine T1.off0a ?_ | fail) | (show TC _ _ _ _ _ _ _ _ _ _; first | refine TC.goa ?_ | refine TC.fina ?_ | fail)) | ((show Tri _ _ _ (.cond _ _ _) _ _ _; first | refine Tri.cTa ?_ | refine Tri.cFa ?_ | refine Tri.condTa ?_ | refine Tri.condFa ?_ | refine Tri.condNTa ?_ | refine Tri.condNFa ?_ | fail))))
        refine T1.call rfl rfl rfl rfl (orderN_ok (x := (Pv : Int) ^ k) (n := a) (by omega) (by omega)) ?_
        rintro _ _ ⟨rfl, rfl⟩
        (repeat' (first | ((show TL _ _ _ _ (_ :: _) _ _ _; first | refine TL.fa ?_ | refine TL.ua ?_ | (refine TL.rba ?_; intro _) | (refine TL.rra ?_; first | rintro _ _ ⟨rfl, rfl⟩ | rintro _ _ rfl) | refine TL.offa ?_ | refine TL.off0a ?_ | refine TL.gu ?_ | fail)) | (first | refine Stp.h ?_ | refine Post.then_normal ?_ | refine Post.next ?_ | refine Post.block_other rfl ?_) | (first | (show TT _ _ _ _ _ _ _ _ _; first | refine TT.takea ?_ | refine TT.takeMa ?_ | refine TT.takeOffa ?_ | refine TT.gu ?_ | fail) | exact TTs.nil | refine TTs.cons ?_ ?_ | (show T1 _ _ _ _ _ _ _ _ _ _; first | refine T1.ua ?_ | (refine T1.rba ?_; intro _) | (refine T1.rra ?_; first | rintro _ _ ⟨rfl, rfl⟩ | rintro _ _ rfl) | refine T1.fa ?_ | refine T1.offa ?_ | refine T1.off0a ?_ | fail) | (show TC _ _ _ _ _ _ _ _ _ _; first | refine TC.goa ?_ | refine TC.fina ?_ | fail)) | ((show Tri _ _ _ (.cond _ _ _) _ _ _; first | refine Tri.cTa ?_ | refine Tri.cFa ?_ | refine Tri.condTa ?_ | refine Tri.condFa ?_ | refine Tri.condNTa ?_ | refine Tri.condNFa ?_ | fail))))
        exact Post.cut _ _ ⟨rfl, rfl⟩ (by (exact Sub.au)) (by (exact Ents.au))
      rintro _ _ ⟨rfl, rfl⟩
      (repeat' (first | ((show TL _ _ _ _ (_ :: _) _ _ _; first | refine TL.fa ?_ | refine TL.ua ?_ | (refine TL.rba ?_; intro _) | (refine TL.rra ?_; first | rintro _ _ ⟨rfl, rfl⟩ | rintro _ _ rfl) | refine TL.offa ?_ | refine TL.off0a ?_ | refine TL.gu ?_ | fail)) | (first | refine Stp.h ?_ | refine Post.then_normal ?_ | refine Post.next ?_ | refine Post.block_other rfl ?_) | (first | (show TT _ _ _ _ _ _ _ _ _; first | refine TT.takea ?_ | refine TT.takeMa ?_ | refine TT.takeOffa ?_ | refine TT.gu ?_ | fail) | exact TTs.nil | refine TTs.cons ?_ ?_ | (show T1 _ _ _ _ _ _ _ _ _ _; first | refine T1.ua ?_ | (refine T1.rba ?_; intro _) | (refine T1.rra ?_; first | rintro _ _ ⟨rfl, rfl⟩ | rintro _ _ rfl) | refine T1.fa ?_ | refine T1.offa ?_ | refine T1.off0a ?_ | fail) | (show TC _ _ _ _ _ _ _ _ _ _; first | refine TC.goa ?_ | refine TC.fina ?_ | fail)) | ((show Tri _ _ _ (.cond _ _ _) _ _ _; first | refine Tri.cTa ?_ | refine Tri.cFa ?_ | refine Tri.condTa ?_ | refine Tri.condFa ?_ | refine Tri.condNTa ?_ | refine Tri.condNFa ?_ | fail))))
      by_cases hMD : M ≤ D
      · have hyes := htr.2 hMD
        (repeat' (first | ((show TL _ _ _ _ (_ :: _) _ _ _; first | refine TL.fa ?_ | refine TL.ua ?_ | (refine TL.rba ?_; intro _) | (refine TL.rra ?_; first | rintro _ _ ⟨rfl, rfl⟩ | rintro _ _ rfl) | refine TL.offa ?_ | refine TL.off0a ?_ | refine TL.gu ?_ | fail)) | (first | refine Stp.h ?_ | refine Post.then_normal ?_ | refine Post.next ?_ | refine Post.block_other rfl ?_) | (first | (show TT _ _ _ _ _ _ _ _ _; first | refine TT.takea ?_ | refine TT.takeMa ?_ | refine TT.takeOffa ?_ | refine TT.gu ?_ | fail) | exact TTs.nil | refine TTs.cons ?_ ?_ | (show T1 _ _ _ _ _ _ _ _ _ _; first | refine T1.ua ?_ | (refine T1.rba ?_; intro _) | (refine T1.rra ?_; first | rintro _ _ ⟨rfl, rfl⟩ | rintro _ _ rfl) | refine T1.fa ?_ | refine T1.offa ?_ | refine T1.off0a ?_ | fail) | (show TC _ _ _ _ _ _ _ _ _ _; first | refine TC.goa ?_ | refine TC.fina ?_ | fail)) | ((show Tri _ _ _ (.cond _ _ _) _ _ _; first | refine Tri.cTa ?_ | refine Tri.cFa ?_ | refine Tri.condTa ?_ | refine Tri.condFa ?_ | refine Tri.condNTa ?_ | refine Tri.condNFa ?_ | fail))))
        exact Post.round (M, hi, M) ⟨hMD, hhi, hhi9, hM9⟩ (by simp only; omega) (by (exact Sub.au)) (by (exact Ents.au))
      · have hno : ¬ signI ((Pv : Int) ^ k - (a : Int)) ≤ 0 := fun h => hMD (htr.1 h)
        (repeat' (first | ((show TL _ _ _ _ (_ :: _) _ _ _; first | refine TL.fa ?_ | refine TL.ua ?_ | (refine TL.rba ?_; intro _) | (refine TL.rra ?_; first | rintro _ _ ⟨rfl, rfl⟩ | rintro _ _ rfl) | refine TL.offa ?_ | refine TL.off0a ?_ | refine TL.gu ?_ | fail)) | (first | refine Stp.h ?_ | refine Post.then_normal ?_ | refine Post.next ?_ | refine Post.block_other rfl ?_) | (first | (show TT _ _ _ _ _ _ _ _ _; first | refine TT.takea ?_ | refine TT.takeMa ?_ | refine TT.takeOffa ?_ | refine TT.gu ?_ | fail) | exact TTs.nil | refine TTs.cons ?_ ?_ | (show T1 _ _ _ _ _ _ _ _ _ _; first | refine T1.ua ?_ | (refine T1.rba ?_; intro _) | (refine T1.rra ?_; first | rintro _ _ ⟨rfl, rfl⟩ | rintro _ _ rfl) | refine T1.fa ?_ | refine T1.offa ?_ | refine T1.off0a ?_ | fail) | (show TC _ _ _ _ _ _ _ _ _ _; first | refine TC.goa ?_ | refine TC.fina ?_ | fail)) | ((show Tri _ _ _ (.cond _ _ _) _ _ _; first | refine Tri.cTa ?_ | refine Tri.cFa ?_ | refine Tri.condTa ?_ | refine Tri.condFa ?_ | refine Tri.condNTa ?_ | refine Tri.condNFa ?_ | fail))))
        exact Post.round (lo, M, M) ⟨hlo, by simp only; omega, by simp only; omega, hM9⟩ (by simp only; omega) (by (exact Sub.au)) (by (exact Ents.au))
    obtain rfl : lo = D := by omega
    have hloj := hvs lo
    have hfin : valQ (xs.set j lo) = 10000 ^ j * (r / 10000 ^ j) := by
      have h4 := Nat.div_add_mod (r / 10000 ^ j) 10000
      rw [hloj, hval, Nat.pow_succ, ← Nat.div_div_eq_div_mul, Nat.mul_assoc, ← Nat.mul_add, hD]
      congr 1
    have htk : valQ ((xs.set j lo).take j) = 0 := by rw [List.take_set_of_le (Nat.le_refl j)]; exact hzj
    (repeat' (first | ((show TL _ _ _ _ (_ :: _) _ _ _; first | refine TL.fa ?_ | refine TL.ua ?_ | (refine TL.rba ?_; intro _) | (refine TL.rra ?_; first | rintro _ _ ⟨rfl, rfl⟩ | rintro _ _ rfl) | refine TL.offa ?_ | refine TL.off0a ?_ | refine TL.gu ?_ | fail)) | (first | refine Stp.h ?_ | refine Post.then_normal ?_ | refine Post.next ?_ | refine Post.block_other rfl ?_) | (first | (show TT _ _ _ _ _ _ _ _ _; first | refine TT.takea ?_ | refine TT.takeMa ?_ | refine TT.takeOffa ?_ | refine TT.gu ?_ | fail) | exact TTs.nil | refine TTs.cons ?_ ?_ | (show T1 _ _ _ _ _ _ _ _ _ _; first | refine T1.ua ?_ | (refine T1.rba ?_; intro _) | (refine T1.rra ?_; first | rintro _ _ ⟨rfl, rfl⟩ | rintro _ _ rfl) | refine T1.fa ?_ | refine T1.offa ?_ | refine T1.off0a ?_ | fail) | (show TC _ _ _ _ _ _ _ _ _ _; first | refine TC.goa ?_ | refine TC.fina ?_ | fail)) | ((show Tri _ _ _ (.cond _ _ _) _ _ _; first | refine Tri.cTa ?_ | refine Tri.cFa ?_ | refine Tri.condTa ?_ | refine Tri.condFa ?_ | refine Tri.condNTa ?_ | refine Tri.condNFa ?_ | fail))))
    rw [List.set_set]
    exact Post.round (j, xs.set j lo) ⟨by simp only; omega, hsl lo, hss lo hD9, htk, hfin⟩ (by simp only; omega) (by (exact Sub.au)) (by (exact Ents.au))
theorem powR_ok {s : List UInt8} {n : Int} (hs : s.length ≤ 1000000000) :
    CallsS Tryz.prog w0 28 [.string ⟨s.toArray⟩, .int .i64 n] As fun u Bs => u = .tuple #[.string ⟨(powW s n).1.toArray⟩, .int .i64 (powW s n).2] ∧ Bs = As := by
  refine CallsS.of_tri Tryz.func28 rfl Tryz.ntmps28 rfl ?_
  (repeat' (first | ((show TL _ _ _ _ (_ :: _) _ _ _; first | refine TL.fa ?_ | refine TL.ua ?_ | (refine TL.rba ?_; intro _) | (refine TL.rra ?_; first | rintro _ _ ⟨rfl, rfl⟩ | rintro _ _ rfl) | refine TL.offa ?_ | refine TL.off0a ?_ | refine TL.gu ?_ | fail)) | (first | refine Stp.h ?_ | refine Post.then_normal ?_ | refine Post.next ?_ | refine Post.block_other rfl ?_) | ((show Tri _ _ _ (.cond _ _ _) _ _ _; first | refine Tri.cTa ?_ | refine Tri.cFa ?_ | refine Tri.condTa ?_ | refine Tri.condFa ?_ | refine Tri.condNTa ?_ | refine Tri.condNFa ?_ | fail))))
  refine TL.call rfl rfl rfl (rightR_ok hs) ?_
  rintro _ _ ⟨rfl, rfl⟩
  cases h1 : readW s with
  | none =>
    rw [show powW s n = ([], 10) by unfold powW; rw [h1]]
    (repeat' (first | ((show TL _ _ _ _ (_ :: _) _ _ _; first | refine TL.fa ?_ | refine TL.ua ?_ | (refine TL.rba ?_; intro _) | (refine TL.rra ?_; first | rintro _ _ ⟨rfl, rfl⟩ | rintro _ _ rfl) | refine TL.offa ?_ | refine TL.off0a ?_ | refine TL.gu ?_ | fail)) | (first | refine Stp.h ?_ | refine Post.then_normal ?_ | refine Post.next ?_ | refine Post.block_other rfl ?_) | ((show Tri _ _ _ (.cond _ _ _) _ _ _; first | refine Tri.cTa ?_ | refine Tri.cFa ?_ | refine Tri.condTa ?_ | refine Tri.condFa ?_ | refine Tri.condNTa ?_ | refine Tri.condNFa ?_ | fail))))
    ((try refine Post.ret_normal ?_); first | refine Post.r1a ?_ | refine Post.r2a ?_ | refine Post.r3a ?_ | refine Post.r0a ?_ | fail)
    exact ⟨_, ⟨rfl, rfl⟩, by (exact Ents.au)⟩
  | some x =>
    rw [Option.isSome_some]
    have hxq := readW_qud h1
    by_cases hn : n < 0 ∨ 40 < n
    · rw [show powW s n = ([], 2) by unfold powW; rw [h1]; exact if_pos hn]
      rcases hn with hn | hn
      · (repeat' (first | ((show TL _ _ _ _ (_ :: _) _ _ _; first | refine TL.fa ?_ | refine TL.ua ?_ | (refine TL.rba ?_; intro _) | (refine TL.rra ?_; first | rintro _ _ ⟨rfl, rfl⟩ | rintro _ _ rfl) | refine TL.offa ?_ | refine TL.off0a ?_ | refine TL.gu ?_ | fail)) | (first | refine Stp.h ?_ | refine Post.then_normal ?_ | refine Post.next ?_ | refine Post.block_other rfl ?_) | ((show Tri _ _ _ (.cond _ _ _) _ _ _; first | refine Tri.cTa ?_ | refine Tri.cFa ?_ | refine Tri.condTa ?_ | refine Tri.condFa ?_ | refine Tri.condNTa ?_ | refine Tri.condNFa ?_ | fail))))
        ((try refine Post.ret_normal ?_); first | refine Post.r1a ?_ | refine Post.r2a ?_ | refine Post.r3a ?_ | refine Post.r0a ?_ | fail)
        exact ⟨_, ⟨rfl, rfl⟩, by (exact Ents.au)⟩
      · have hn' : ¬ n < 0 := by omega
        (repeat' (first | ((show TL _ _ _ _ (_ :: _) _ _ _; first | refine TL.fa ?_ | refine TL.ua ?_ | (refine TL.rba ?_; intro _) | (refine TL.rra ?_; first | rintro _ _ ⟨rfl, rfl⟩ | rintro _ _ rfl) | refine TL.offa ?_ | refine TL.off0a ?_ | refine TL.gu ?_ | fail)) | (first | refine Stp.h ?_ | refine Post.then_normal ?_ | refine Post.next ?_ | refine Post.block_other rfl ?_) | ((show Tri _ _ _ (.cond _ _ _) _ _ _; first | refine Tri.cTa ?_ | refine Tri.cFa ?_ | refine Tri.condTa ?_ | refine Tri.condFa ?_ | refine Tri.condNTa ?_ | refine Tri.condNFa ?_ | fail))))
        ((try refine Post.ret_normal ?_); first | refine Post.r1a ?_ | refine Post.r2a ?_ | refine Post.r3a ?_ | refine Post.r0a ?_ | fail)
        exact ⟨_, ⟨rfl, rfl⟩, by (exact Ents.au)⟩
    rw [show powW s n = outW (x ^ n.toNat) by unfold powW; rw [h1]; exact if_neg hn]
    obtain ⟨m, rfl⟩ : ∃ m : Nat, n = (m : Int) := ⟨n.toNat, by omega⟩
    have hn1 : ¬ (m : Int) < 0 := by omega
    have hn2 : ¬ 40 < (m : Int) := by omega
    rw [Int.toNat_natCast]
    have hL : (qud x.natAbs).length * m ≤ 1000000 := Nat.le_trans (Nat.mul_le_mul_left _ (show m ≤ 40 by omega)) (by omega)
    have hpl : (qud (x ^ m).natAbs).length ≤ 100000000 := by
      have := qud_len_pw x.natAbs m
      rw [Int.natAbs_pow]
      omega
    (repeat' (first | ((show TL _ _ _ _ (_ :: _) _ _ _; first | refine TL.fa ?_ | refine TL.ua ?_ | (refine TL.rba ?_; intro _) | (refine TL.rra ?_; first | rintro _ _ ⟨rfl, rfl⟩ | rintro _ _ rfl) | refine TL.offa ?_ | refine TL.off0a ?_ | refine TL.gu ?_ | fail)) | (first | refine Stp.h ?_ | refine Post.then_normal ?_ | refine Post.next ?_ | refine Post.block_other rfl ?_) | ((show Tri _ _ _ (.cond _ _ _) _ _ _; first | refine Tri.cTa ?_ | refine Tri.cFa ?_ | refine Tri.condTa ?_ | refine Tri.condFa ?_ | refine Tri.condNTa ?_ | refine Tri.condNFa ?_ | fail))))
    refine TL.call rfl rfl rfl (inR_ok h1) ?_
    rintro _ _ ⟨p, cap, rfl, rfl⟩
    (repeat' (first | ((show TL _ _ _ _ (_ :: _) _ _ _; first | refine TL.fa ?_ | refine TL.ua ?_ | (refine TL.rba ?_; intro _) | (refine TL.rra ?_; first | rintro _ _ ⟨rfl, rfl⟩ | rintro _ _ rfl) | refine TL.offa ?_ | refine TL.off0a ?_ | refine TL.gu ?_ | fail)) | (first | refine Stp.h ?_ | refine Post.then_normal ?_ | refine Post.next ?_ | refine Post.block_other rfl ?_) | ((show Tri _ _ _ (.cond _ _ _) _ _ _; first | refine Tri.cTa ?_ | refine Tri.cFa ?_ | refine Tri.condTa ?_ | refine Tri.condFa ?_ | refine Tri.condNTa ?_ | refine Tri.condNFa ?_ | fail))))
    refine TL.call rfl rfl rfl (raisedR_ok (x := x) (n := m) (by omega) hL (by omega)) ?_
    rintro _ _ ⟨p2, cap2, rfl, rfl⟩
    (repeat' (first | ((show TL _ _ _ _ (_ :: _) _ _ _; first | refine TL.fa ?_ | refine TL.ua ?_ | (refine TL.rba ?_; intro _) | (refine TL.rra ?_; first | rintro _ _ ⟨rfl, rfl⟩ | rintro _ _ rfl) | refine TL.offa ?_ | refine TL.off0a ?_ | refine TL.gu ?_ | fail)) | (first | refine Stp.h ?_ | refine Post.then_normal ?_ | refine Post.next ?_ | refine Post.block_other rfl ?_) | ((show Tri _ _ _ (.cond _ _ _) _ _ _; first | refine Tri.cTa ?_ | refine Tri.cFa ?_ | refine Tri.condTa ?_ | refine Tri.condFa ?_ | refine Tri.condNTa ?_ | refine Tri.condNFa ?_ | fail))))
    refine TL.call rfl rfl rfl (outR_ok (z := x ^ m) hpl) ?_
    rintro _ _ ⟨rfl, rfl⟩
    (repeat' (first | ((show TL _ _ _ _ (_ :: _) _ _ _; first | refine TL.fa ?_ | refine TL.ua ?_ | (refine TL.rba ?_; intro _) | (refine TL.rra ?_; first | rintro _ _ ⟨rfl, rfl⟩ | rintro _ _ rfl) | refine TL.offa ?_ | refine TL.off0a ?_ | refine TL.gu ?_ | fail)) | (first | refine Stp.h ?_ | refine Post.then_normal ?_ | refine Post.next ?_ | refine Post.block_other rfl ?_) | ((show Tri _ _ _ (.cond _ _ _) _ _ _; first | refine Tri.cTa ?_ | refine Tri.cFa ?_ | refine Tri.condTa ?_ | refine Tri.condFa ?_ | refine Tri.condNTa ?_ | refine Tri.condNFa ?_ | fail))))
    ((try refine Post.ret_normal ?_); first | refine Post.r1a ?_ | refine Post.r2a ?_ | refine Post.r3a ?_ | refine Post.r0a ?_ | fail)
    exact ⟨_, ⟨rfl, rfl⟩, by (exact Ents.au)⟩
theorem rootR_ok {s : List UInt8} {n : Int} (hs : s.length ≤ 1000000000) :
    CallsS Tryz.prog w0 30 [.string ⟨s.toArray⟩, .int .i64 n] As fun u Bs => u = .tuple #[.string ⟨(rootW s n).1.toArray⟩, .int .i64 (rootW s n).2] ∧ Bs = As := by
  refine CallsS.of_tri Tryz.func30 rfl Tryz.ntmps30 rfl ?_
  (repeat' (first | ((show TL _ _ _ _ (_ :: _) _ _ _; first | refine TL.fa ?_ | refine TL.ua ?_ | (refine TL.rba ?_; intro _) | (refine TL.rra ?_; first | rintro _ _ ⟨rfl, rfl⟩ | rintro _ _ rfl) | refine TL.offa ?_ | refine TL.off0a ?_ | refine TL.gu ?_ | fail)) | (first | refine Stp.h ?_ | refine Post.then_normal ?_ | refine Post.next ?_ | refine Post.block_other rfl ?_) | ((show Tri _ _ _ (.cond _ _ _) _ _ _; first | refine Tri.cTa ?_ | refine Tri.cFa ?_ | refine Tri.condTa ?_ | refine Tri.condFa ?_ | refine Tri.condNTa ?_ | refine Tri.condNFa ?_ | fail))))
  refine TL.call rfl rfl rfl (rightR_ok hs) ?_
  rintro _ _ ⟨rfl, rfl⟩
  cases h1 : readW s with
  | none =>
    rw [show rootW s n = ([], 10) by unfold rootW; rw [h1]]
    (repeat' (first | ((show TL _ _ _ _ (_ :: _) _ _ _; first | refine TL.fa ?_ | refine TL.ua ?_ | (refine TL.rba ?_; intro _) | (refine TL.rra ?_; first | rintro _ _ ⟨rfl, rfl⟩ | rintro _ _ rfl) | refine TL.offa ?_ | refine TL.off0a ?_ | refine TL.gu ?_ | fail)) | (first | refine Stp.h ?_ | refine Post.then_normal ?_ | refine Post.next ?_ | refine Post.block_other rfl ?_) | ((show Tri _ _ _ (.cond _ _ _) _ _ _; first | refine Tri.cTa ?_ | refine Tri.cFa ?_ | refine Tri.condTa ?_ | refine Tri.condFa ?_ | refine Tri.condNTa ?_ | refine Tri.condNFa ?_ | fail))))
    ((try refine Post.ret_normal ?_); first | refine Post.r1a ?_ | refine Post.r2a ?_ | refine Post.r3a ?_ | refine Post.r0a ?_ | fail)
    exact ⟨_, ⟨rfl, rfl⟩, by (exact Ents.au)⟩
  | some x =>
    rw [Option.isSome_some]
    have hxq := readW_qud h1
    by_cases hn1 : n < 1
    · rw [show rootW s n = ([], 2) by unfold rootW; rw [h1]; exact if_pos (.inl hn1)]
      (repeat' (first | ((show TL _ _ _ _ (_ :: _) _ _ _; first | refine TL.fa ?_ | refine TL.ua ?_ | (refine TL.rba ?_; intro _) | (refine TL.rra ?_; first | rintro _ _ ⟨rfl, rfl⟩ | rintro _ _ rfl) | refine TL.offa ?_ | refine TL.off0a ?_ | refine TL.gu ?_ | fail)) | (first | refine Stp.h ?_ | refine Post.then_normal ?_ | refine Post.next ?_ | refine Post.block_other rfl ?_) | ((show Tri _ _ _ (.cond _ _ _) _ _ _; first | refine Tri.cTa ?_ | refine Tri.cFa ?_ | refine Tri.condTa ?_ | refine Tri.condFa ?_ | refine Tri.condNTa ?_ | refine Tri.condNFa ?_ | fail))))
      ((try refine Post.ret_normal ?_); first | refine Post.r1a ?_ | refine Post.r2a ?_ | refine Post.r3a ?_ | refine Post.r0a ?_ | fail)
      exact ⟨_, ⟨rfl, rfl⟩, by (exact Ents.au)⟩
    by_cases hn2 : 12 < n
    · rw [show rootW s n = ([], 2) by unfold rootW; rw [h1]; exact if_pos (.inr (.inl hn2))]
      (repeat' (first | ((show TL _ _ _ _ (_ :: _) _ _ _; first | refine TL.fa ?_ | refine TL.ua ?_ | (refine TL.rba ?_; intro _) | (refine TL.rra ?_; first | rintro _ _ ⟨rfl, rfl⟩ | rintro _ _ rfl) | refine TL.offa ?_ | refine TL.off0a ?_ | refine TL.gu ?_ | fail)) | (first | refine Stp.h ?_ | refine Post.then_normal ?_ | refine Post.next ?_ | refine Post.block_other rfl ?_) | ((show Tri _ _ _ (.cond _ _ _) _ _ _; first | refine Tri.cTa ?_ | refine Tri.cFa ?_ | refine Tri.condTa ?_ | refine Tri.condFa ?_ | refine Tri.condNTa ?_ | refine Tri.condNFa ?_ | fail))))
      ((try refine Post.ret_normal ?_); first | refine Post.r1a ?_ | refine Post.r2a ?_ | refine Post.r3a ?_ | refine Post.r0a ?_ | fail)
      exact ⟨_, ⟨rfl, rfl⟩, by (exact Ents.au)⟩
    (repeat' (first | ((show TL _ _ _ _ (_ :: _) _ _ _; first | refine TL.fa ?_ | refine TL.ua ?_ | (refine TL.rba ?_; intro _) | (refine TL.rra ?_; first | rintro _ _ ⟨rfl, rfl⟩ | rintro _ _ rfl) | refine TL.offa ?_ | refine TL.off0a ?_ | refine TL.gu ?_ | fail)) | (first | refine Stp.h ?_ | refine Post.then_normal ?_ | refine Post.next ?_ | refine Post.block_other rfl ?_) | ((show Tri _ _ _ (.cond _ _ _) _ _ _; first | refine Tri.cTa ?_ | refine Tri.cFa ?_ | refine Tri.condTa ?_ | refine Tri.condFa ?_ | refine Tri.condNTa ?_ | refine Tri.condNFa ?_ | fail))))
    refine TL.call rfl rfl rfl (inR_ok h1) ?_
    rintro _ _ ⟨p, cap, rfl, rfl⟩
    by_cases hx0 : x < 0
    · rw [show rootW s n = ([], 2) by unfold rootW; rw [h1]; exact if_pos (.inr (.inr hx0))]
      (repeat' (first | ((show TL _ _ _ _ (_ :: _) _ _ _; first | refine TL.fa ?_ | refine TL.ua ?_ | (refine TL.rba ?_; intro _) | (refine TL.rra ?_; first | rintro _ _ ⟨rfl, rfl⟩ | rintro _ _ rfl) | refine TL.offa ?_ | refine TL.off0a ?_ | refine TL.gu ?_ | fail)) | (first | refine Stp.h ?_ | refine Post.then_normal ?_ | refine Post.next ?_ | refine Post.block_other rfl ?_) | ((show Tri _ _ _ (.cond _ _ _) _ _ _; first | refine Tri.cTa ?_ | refine Tri.cFa ?_ | refine Tri.condTa ?_ | refine Tri.condFa ?_ | refine Tri.condNTa ?_ | refine Tri.condNFa ?_ | fail))))
      refine TL.f rfl rfl (ExF.fldV 4 rfl (by exact ⟨_, rfl, rfl, rfl⟩) (by rfl)) ?_
      (repeat' (first | ((show TL _ _ _ _ (_ :: _) _ _ _; first | refine TL.fa ?_ | refine TL.ua ?_ | (refine TL.rba ?_; intro _) | (refine TL.rra ?_; first | rintro _ _ ⟨rfl, rfl⟩ | rintro _ _ rfl) | refine TL.offa ?_ | refine TL.off0a ?_ | refine TL.gu ?_ | fail)) | (first | refine Stp.h ?_ | refine Post.then_normal ?_ | refine Post.next ?_ | refine Post.block_other rfl ?_) | ((show Tri _ _ _ (.cond _ _ _) _ _ _; first | refine Tri.cTa ?_ | refine Tri.cFa ?_ | refine Tri.condTa ?_ | refine Tri.condFa ?_ | refine Tri.condNTa ?_ | refine Tri.condNFa ?_ | fail))))
      ((try refine Post.ret_normal ?_); first | refine Post.r1a ?_ | refine Post.r2a ?_ | refine Post.r3a ?_ | refine Post.r0a ?_ | fail)
      exact ⟨_, ⟨rfl, rfl⟩, by (exact Ents.au)⟩
    rw [show rootW s n = outW (rootN x.natAbs n.toNat : Nat) by unfold rootW; rw [h1]; exact if_neg (by omega)]
    obtain ⟨k, rfl⟩ : ∃ k : Nat, n = (k : Int) := ⟨n.toNat, by omega⟩
    obtain ⟨a, rfl⟩ : ∃ a : Nat, x = (a : Int) := ⟨x.natAbs, by omega⟩
    rw [Int.toNat_natCast]
    simp only [Int.natAbs_natCast] at hxq ⊢
    rw [show decide ((a : Int) < 0) = false by rw [decide_eq_false_iff_not]; omega]
    have hzq : (qud ((rootN a k : Nat) : Int).natAbs).length ≤ 100000000 := by
      have h2 := qud_len_le (Nat.le_trans (Nat.le_self_pow (show k ≠ 0 by omega) (rootN a k)) (rootN_pow (m := a) (show 0 < k by omega)))
      rw [Int.natAbs_natCast]
      omega
    (repeat' (first | ((show TL _ _ _ _ (_ :: _) _ _ _; first | refine TL.fa ?_ | refine TL.ua ?_ | (refine TL.rba ?_; intro _) | (refine TL.rra ?_; first | rintro _ _ ⟨rfl, rfl⟩ | rintro _ _ rfl) | refine TL.offa ?_ | refine TL.off0a ?_ | refine TL.gu ?_ | fail)) | (first | refine Stp.h ?_ | refine Post.then_normal ?_ | refine Post.next ?_ | refine Post.block_other rfl ?_) | ((show Tri _ _ _ (.cond _ _ _) _ _ _; first | refine Tri.cTa ?_ | refine Tri.cFa ?_ | refine Tri.condTa ?_ | refine Tri.condFa ?_ | refine Tri.condNTa ?_ | refine Tri.condNFa ?_ | fail))))
    refine TL.f rfl rfl (ExF.fldV 4 rfl (by exact ⟨_, rfl, rfl, rfl⟩) (by rfl)) ?_
    (repeat' (first | ((show TL _ _ _ _ (_ :: _) _ _ _; first | refine TL.fa ?_ | refine TL.ua ?_ | (refine TL.rba ?_; intro _) | (refine TL.rra ?_; first | rintro _ _ ⟨rfl, rfl⟩ | rintro _ _ rfl) | refine TL.offa ?_ | refine TL.off0a ?_ | refine TL.gu ?_ | fail)) | (first | refine Stp.h ?_ | refine Post.then_normal ?_ | refine Post.next ?_ | refine Post.block_other rfl ?_) | ((show Tri _ _ _ (.cond _ _ _) _ _ _; first | refine Tri.cTa ?_ | refine Tri.cFa ?_ | refine Tri.condTa ?_ | refine Tri.condFa ?_ | refine Tri.condNTa ?_ | refine Tri.condNFa ?_ | fail))))
    refine TL.call rfl rfl rfl (inR_ok h1) ?_
    rintro _ _ ⟨p2, cap2, rfl, rfl⟩
    simp only [Int.natAbs_natCast]
    rw [show decide ((a : Int) < 0) = false by rw [decide_eq_false_iff_not]; omega]
    (repeat' (first | ((show TL _ _ _ _ (_ :: _) _ _ _; first | refine TL.fa ?_ | refine TL.ua ?_ | (refine TL.rba ?_; intro _) | (refine TL.rra ?_; first | rintro _ _ ⟨rfl, rfl⟩ | rintro _ _ rfl) | refine TL.offa ?_ | refine TL.off0a ?_ | refine TL.gu ?_ | fail)) | (first | refine Stp.h ?_ | refine Post.then_normal ?_ | refine Post.next ?_ | refine Post.block_other rfl ?_) | ((show Tri _ _ _ (.cond _ _ _) _ _ _; first | refine Tri.cTa ?_ | refine Tri.cFa ?_ | refine Tri.condTa ?_ | refine Tri.condFa ?_ | refine Tri.condNTa ?_ | refine Tri.condNFa ?_ | fail))))
    refine TL.call rfl rfl rfl (floorR_ok (a := a) (k := k) (by omega) (by omega) (by omega)) ?_
    rintro _ _ ⟨p3, cap3, rfl, rfl⟩
    (repeat' (first | ((show TL _ _ _ _ (_ :: _) _ _ _; first | refine TL.fa ?_ | refine TL.ua ?_ | (refine TL.rba ?_; intro _) | (refine TL.rra ?_; first | rintro _ _ ⟨rfl, rfl⟩ | rintro _ _ rfl) | refine TL.offa ?_ | refine TL.off0a ?_ | refine TL.gu ?_ | fail)) | (first | refine Stp.h ?_ | refine Post.then_normal ?_ | refine Post.next ?_ | refine Post.block_other rfl ?_) | ((show Tri _ _ _ (.cond _ _ _) _ _ _; first | refine Tri.cTa ?_ | refine Tri.cFa ?_ | refine Tri.condTa ?_ | refine Tri.condFa ?_ | refine Tri.condNTa ?_ | refine Tri.condNFa ?_ | fail))))
    refine TL.call rfl rfl rfl (outR_ok (z := (rootN a k : Nat)) hzq) ?_
    rintro _ _ ⟨rfl, rfl⟩
    (repeat' (first | ((show TL _ _ _ _ (_ :: _) _ _ _; first | refine TL.fa ?_ | refine TL.ua ?_ | (refine TL.rba ?_; intro _) | (refine TL.rra ?_; first | rintro _ _ ⟨rfl, rfl⟩ | rintro _ _ rfl) | refine TL.offa ?_ | refine TL.off0a ?_ | refine TL.gu ?_ | fail)) | (first | refine Stp.h ?_ | refine Post.then_normal ?_ | refine Post.next ?_ | refine Post.block_other rfl ?_) | ((show Tri _ _ _ (.cond _ _ _) _ _ _; first | refine Tri.cTa ?_ | refine Tri.cFa ?_ | refine Tri.condTa ?_ | refine Tri.condFa ?_ | refine Tri.condNTa ?_ | refine Tri.condNFa ?_ | fail))))
    ((try refine Post.ret_normal ?_); first | refine Post.r1a ?_ | refine Post.r2a ?_ | refine Post.r3a ?_ | refine Post.r0a ?_ | fail)
    exact ⟨_, ⟨rfl, rfl⟩, by (exact Ents.au)⟩
end Go.Proofs.YtfbhlfhecmhihaaGreatDoor
