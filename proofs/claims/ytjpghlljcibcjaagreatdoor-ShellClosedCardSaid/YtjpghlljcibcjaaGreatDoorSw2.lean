/- Walks: shells: the boundary nodes of the program. -/
import Derived.Test.YtjpghlljcibcjaaGreatDoorSw1
namespace Go.Proofs.YtjpghlljcibcjaaGreatDoor
open Go Go.Sx
variable {w0 : World} {As : List Ent}
set_option maxRecDepth 100000 in
theorem nodes_ok {v : Value} {xs : List Int} [hr : RdIn As v Int (cI .i64) xs] (hl : xs.length ≤ 1000000000) : CallsS Tryz.prog w0 10 [v] As (NodR As (nodesR xs)) := by
  refine CallsS.of_tri Tryz.func10 rfl Tryz.ntmps10 rfl ?_
  (repeat' (first | ((show TL _ _ _ _ (_ :: _) _ _ _; first | refine TL.fa ?_ | refine TL.ua ?_ | (refine TL.rba ?_; intro _) | (refine TL.rra ?_; first | rintro _ _ ⟨rfl, rfl⟩ | rintro _ _ rfl) | refine TL.offa ?_ | refine TL.off0a ?_ | refine TL.gu ?_ | fail)) | (first | refine Stp.h ?_ | refine Post.then_normal ?_ | refine Post.next ?_ | refine Post.block_other rfl ?_) | ((show Tri _ _ _ (.cond _ _ _) _ _ _; first | refine Tri.cTa ?_ | refine Tri.cFa ?_ | refine Tri.condTa ?_ | refine Tri.condFa ?_ | refine Tri.condNTa ?_ | refine Tri.condNFa ?_ | fail))))
  ((show Tri _ _ _ (.cond _ _ _) _ _ _; first | refine Tri.condP rfl (fun hc => ?_) (fun hc => ?_) | refine Tri.condN rfl (fun hc => ?_) (fun hc => ?_)))
  · (repeat' (first | ((show TL _ _ _ _ (_ :: _) _ _ _; first | refine TL.fa ?_ | refine TL.ua ?_ | (refine TL.rba ?_; intro _) | (refine TL.rra ?_; first | rintro _ _ ⟨rfl, rfl⟩ | rintro _ _ rfl) | refine TL.offa ?_ | refine TL.off0a ?_ | refine TL.gu ?_ | fail)) | (first | refine Stp.h ?_ | refine Post.then_normal ?_ | refine Post.next ?_ | refine Post.block_other rfl ?_) | ((show Tri _ _ _ (.cond _ _ _) _ _ _; first | refine Tri.cTa ?_ | refine Tri.cFa ?_ | refine Tri.condTa ?_ | refine Tri.condFa ?_ | refine Tri.condNTa ?_ | refine Tri.condNFa ?_ | fail))))
    ((try refine Post.ret_normal ?_); first | refine Post.r1a ?_ | refine Post.r2a ?_ | refine Post.r3a ?_ | refine Post.r0a ?_ | fail)
    refine ⟨_, ⟨_, by rw [nodesR_len (by omega)], rfl⟩, ?_⟩
    rw [nodesR_len (by omega)]
    exact Ents.nilW cV3
  · obtain ⟨x, y, z, hxs⟩ := len3 (xs := xs) (by omega)
    have g0 : xs[0]? = some x := by rw [hxs]; rfl
    have g1 : xs[1]? = some y := by rw [hxs]; rfl
    have g2 : xs[2]? = some z := by rw [hxs]; rfl
    have hl3 : xs.length = 3 := by rw [hxs]; rfl
    rw [hl3]
    by_cases hin : 2 ≤ x ∧ x ≤ 9 ∧ 2 ≤ y ∧ y ≤ 9 ∧ 2 ≤ z ∧ z ≤ 9
    · obtain ⟨x2, x9, y2, y9, z2, z9⟩ := hin
      obtain ⟨a, rfl⟩ : ∃ a : Nat, x = (a : Int) := ⟨x.toNat, by omega⟩
      obtain ⟨b, rfl⟩ : ∃ b : Nat, y = (b : Int) := ⟨y.toNat, by omega⟩
      obtain ⟨c, rfl⟩ : ∃ c : Nat, z = (c : Int) := ⟨z.toNat, by omega⟩
      have hR := nodesR_yes (a := a) (b := b) (c := c) (by omega)
      rw [← hxs] at hR
      rw [hR]
      have m1 : (1 : Int) * a * b = ((a * b : Nat) : Int) := by rw [Int.one_mul, Int.natCast_mul]
      have m2 : (1 : Int) * a * b * c = ((a * b * c : Nat) : Int) := by rw [m1, ← Int.natCast_mul]
      have m3 : (1 : Int) * ((a : Int) - 2) * ((b : Int) - 2) = (((a - 2) * (b - 2) : Nat) : Int) := by rw [Int.one_mul, Int.natCast_mul]; congr 1 <;> omega
      have m4 : (1 : Int) * ((a : Int) - 2) * ((b : Int) - 2) * ((c : Int) - 2) = (((a - 2) * (b - 2) * (c - 2) : Nat) : Int) := by rw [m3, Int.natCast_mul _ (c - 2)]; congr 1; omega
      have b1 : a * b ≤ 81 := Nat.mul_le_mul (show a ≤ 9 by omega) (show b ≤ 9 by omega)
      have b2 : a * b * c ≤ 729 := Nat.mul_le_mul b1 (show c ≤ 9 by omega)
      have b3 : (a - 2) * (b - 2) ≤ 49 := Nat.mul_le_mul (show a - 2 ≤ 7 by omega) (show b - 2 ≤ 7 by omega)
      have b4 : (a - 2) * (b - 2) * (c - 2) ≤ 343 := Nat.mul_le_mul b3 (show c - 2 ≤ 7 by omega)
      have hcnt := nodes_count (a - 2) (by omega) (b - 2) (by omega) (c - 2) (by omega)
      rw [show a - 2 + 2 = a by omega, show b - 2 + 2 = b by omega, show c - 2 + 2 = c by omega] at hcnt
      have hlen : ∀ n, n ≤ a * b * c → (nodesP a b c n).length ≤ 729 := fun n hn => Nat.le_trans nodesP_le (by omega)
      generalize hq : a * b * c = q at m2 b2 hcnt hlen
      generalize hr' : (a - 2) * (b - 2) * (c - 2) = r at m4 b4 hcnt
      generalize hab : a * b = p at m1 b1
      generalize hst : (a - 2) * (b - 2) = t at m3 b3
      (repeat' (first | ((show TL _ _ _ _ (_ :: _) _ _ _; first | refine TL.fa ?_ | refine TL.ua ?_ | (refine TL.rba ?_; intro _) | (refine TL.rra ?_; first | rintro _ _ ⟨rfl, rfl⟩ | rintro _ _ rfl) | refine TL.offa ?_ | refine TL.off0a ?_ | refine TL.gu ?_ | fail)) | (first | refine Stp.h ?_ | refine Post.then_normal ?_ | refine Post.next ?_ | refine Post.block_other rfl ?_) | ((show Tri _ _ _ (.cond _ _ _) _ _ _; first | refine Tri.cTa ?_ | refine Tri.cFa ?_ | refine Tri.condTa ?_ | refine Tri.condFa ?_ | refine Tri.condNTa ?_ | refine Tri.condNFa ?_ | fail))))
      refine Tri.unroll 4 ?_
      (repeat' (first | ((show TL _ _ _ _ (_ :: _) _ _ _; first | refine TL.fa ?_ | refine TL.ua ?_ | (refine TL.rba ?_; intro _) | (refine TL.rra ?_; first | rintro _ _ ⟨rfl, rfl⟩ | rintro _ _ rfl) | refine TL.offa ?_ | refine TL.off0a ?_ | refine TL.gu ?_ | fail)) | (first | refine Stp.h ?_ | refine Post.then_normal ?_ | refine Post.next ?_ | refine Post.block_other rfl ?_) | ((show Tri _ _ _ (.cond _ _ _) _ _ _; first | refine Tri.cTa ?_ | refine Tri.cFa ?_ | refine Tri.condTa ?_ | refine Tri.condFa ?_ | refine Tri.condNTa ?_ | refine Tri.condNFa ?_ | fail))))
      ((show Tri _ _ _ (.cond _ _ _) _ _ _; first | refine Tri.condP rfl (fun hc => ?_) (fun hc => ?_) | refine Tri.condN rfl (fun hc => ?_) (fun hc => ?_)))
      · rw [if_pos (by omega)]
        (repeat' (first | ((show TL _ _ _ _ (_ :: _) _ _ _; first | refine TL.fa ?_ | refine TL.ua ?_ | (refine TL.rba ?_; intro _) | (refine TL.rra ?_; first | rintro _ _ ⟨rfl, rfl⟩ | rintro _ _ rfl) | refine TL.offa ?_ | refine TL.off0a ?_ | refine TL.gu ?_ | fail)) | (first | refine Stp.h ?_ | refine Post.then_normal ?_ | refine Post.next ?_ | refine Post.block_other rfl ?_) | ((show Tri _ _ _ (.cond _ _ _) _ _ _; first | refine Tri.cTa ?_ | refine Tri.cFa ?_ | refine Tri.condTa ?_ | refine Tri.condFa ?_ | refine Tri.condNTa ?_ | refine Tri.condNFa ?_ | fail))))
        ((try refine Post.ret_normal ?_); first | refine Post.r1a ?_ | refine Post.r2a ?_ | refine Post.r3a ?_ | refine Post.r0a ?_ | fail)
        exact ⟨_, ⟨_, rfl, rfl⟩, Ents.nilW cV3⟩
      · rw [if_neg (by omega)]
        clear m1 m2 m3 m4
        (repeat' (first | ((show TL _ _ _ _ (_ :: _) _ _ _; first | refine TL.fa ?_ | refine TL.ua ?_ | (refine TL.rba ?_; intro _) | (refine TL.rra ?_; first | rintro _ _ ⟨rfl, rfl⟩ | rintro _ _ rfl) | refine TL.offa ?_ | refine TL.off0a ?_ | refine TL.gu ?_ | fail)) | (first | refine Stp.h ?_ | refine Post.then_normal ?_ | refine Post.next ?_ | refine Post.block_other rfl ?_) | ((show Tri _ _ _ (.cond _ _ _) _ _ _; first | refine Tri.cTa ?_ | refine Tri.cFa ?_ | refine Tri.condTa ?_ | refine Tri.condFa ?_ | refine Tri.condNTa ?_ | refine Tri.condNFa ?_ | fail))))
        refine Tri.ents (Ents.nilW (T := 27) cV3) ?_
        refine Tri.loop (ι := Nat × Value) (fun s => s.1 ≤ a) (fun s => a - s.1)
          (fun s => [(0, v), (8, s.2), (41, .int .i64 (a : Int)), (42, .int .i64 (s.1 : Int))])
          (fun s => .ow cV3 27 s.2 (nodesP a b c (s.1 * b * c)) :: As) (0, .slice none 0 0) (by simp only; omega) (by (exact Sub.au)) (by simp only [Nat.zero_mul, nodesP_zero]; (exact Ents.au)) ?_
        rintro ⟨i, sv⟩ hi
        simp only at hi
        show Tri _ _ _ _ [(0, _), (8, sv), (41, _), (42, .int .i64 (i : Int))] (.ow cV3 27 sv (nodesP a b c (i * b * c)) :: _) _
        (repeat' (first | ((show TL _ _ _ _ (_ :: _) _ _ _; first | refine TL.fa ?_ | refine TL.ua ?_ | (refine TL.rba ?_; intro _) | (refine TL.rra ?_; first | rintro _ _ ⟨rfl, rfl⟩ | rintro _ _ rfl) | refine TL.offa ?_ | refine TL.off0a ?_ | refine TL.gu ?_ | fail)) | (first | refine Stp.h ?_ | refine Post.then_normal ?_ | refine Post.next ?_ | refine Post.block_other rfl ?_) | ((show Tri _ _ _ (.cond _ _ _) _ _ _; first | refine Tri.cTa ?_ | refine Tri.cFa ?_ | refine Tri.condTa ?_ | refine Tri.condFa ?_ | refine Tri.condNTa ?_ | refine Tri.condNFa ?_ | fail))))
        ((show Tri _ _ _ (.cond _ _ _) _ _ _; first | refine Tri.condP rfl (fun hc => ?_) (fun hc => ?_) | refine Tri.condN rfl (fun hc => ?_) (fun hc => ?_)))
        · (repeat' (first | ((show TL _ _ _ _ (_ :: _) _ _ _; first | refine TL.fa ?_ | refine TL.ua ?_ | (refine TL.rba ?_; intro _) | (refine TL.rra ?_; first | rintro _ _ ⟨rfl, rfl⟩ | rintro _ _ rfl) | refine TL.offa ?_ | refine TL.off0a ?_ | refine TL.gu ?_ | fail)) | (first | refine Stp.h ?_ | refine Post.then_normal ?_ | refine Post.next ?_ | refine Post.block_other rfl ?_) | ((show Tri _ _ _ (.cond _ _ _) _ _ _; first | refine Tri.cTa ?_ | refine Tri.cFa ?_ | refine Tri.condTa ?_ | refine Tri.condFa ?_ | refine Tri.condNTa ?_ | refine Tri.condNFa ?_ | fail))))
          refine Tri.loop (ι := Nat × Value) (fun s => s.1 ≤ b) (fun s => b - s.1)
            (fun s => [(0, v), (8, s.2), (9, .int .i64 (i : Int)), (41, .int .i64 (a : Int)), (42, .int .i64 (i : Int)), (47, .int .i64 (b : Int)), (48, .int .i64 (s.1 : Int))])
            (fun s => .ow cV3 27 s.2 (nodesP a b c ((i * b + s.1) * c)) :: As) (0, sv) (by simp only; omega) (by (exact Sub.au)) (by simp only [Nat.add_zero]; (exact Ents.au)) ?_
          rintro ⟨j, sw⟩ hj
          simp only at hj
          show Tri _ _ _ _ [(0, _), (8, sw), (9, _), (41, _), (42, _), (47, _), (48, .int .i64 (j : Int))] (.ow cV3 27 sw (nodesP a b c ((i * b + j) * c)) :: _) _
          (repeat' (first | ((show TL _ _ _ _ (_ :: _) _ _ _; first | refine TL.fa ?_ | refine TL.ua ?_ | (refine TL.rba ?_; intro _) | (refine TL.rra ?_; first | rintro _ _ ⟨rfl, rfl⟩ | rintro _ _ rfl) | refine TL.offa ?_ | refine TL.off0a ?_ | refine TL.gu ?_ | fail)) | (first | refine Stp.h ?_ | refine Post.then_normal ?_ | refine Post.next ?_ | refine Post.block_other rfl ?_) | ((show Tri _ _ _ (.cond _ _ _) _ _ _; first | refine Tri.cTa ?_ | refine Tri.cFa ?_ | refine Tri.condTa ?_ | refine Tri.condFa ?_ | refine Tri.condNTa ?_ | refine Tri.condNFa ?_ | fail))))
          ((show Tri _ _ _ (.cond _ _ _) _ _ _; first | refine Tri.condP rfl (fun hc => ?_) (fun hc => ?_) | refine Tri.condN rfl (fun hc => ?_) (fun hc => ?_)))
          · (repeat' (first | ((show TL _ _ _ _ (_ :: _) _ _ _; first | refine TL.fa ?_ | refine TL.ua ?_ | (refine TL.rba ?_; intro _) | (refine TL.rra ?_; first | rintro _ _ ⟨rfl, rfl⟩ | rintro _ _ rfl) | refine TL.offa ?_ | refine TL.off0a ?_ | refine TL.gu ?_ | fail)) | (first | refine Stp.h ?_ | refine Post.then_normal ?_ | refine Post.next ?_ | refine Post.block_other rfl ?_) | ((show Tri _ _ _ (.cond _ _ _) _ _ _; first | refine Tri.cTa ?_ | refine Tri.cFa ?_ | refine Tri.condTa ?_ | refine Tri.condFa ?_ | refine Tri.condNTa ?_ | refine Tri.condNFa ?_ | fail))))
            refine Tri.loop (ι := Nat × Value) (fun s => s.1 ≤ c) (fun s => c - s.1)
              (fun s => [(0, v), (8, s.2), (9, .int .i64 (i : Int)), (10, .int .i64 (j : Int)), (41, .int .i64 (a : Int)), (42, .int .i64 (i : Int)), (47, .int .i64 (b : Int)), (48, .int .i64 (j : Int)), (53, .int .i64 (c : Int)), (54, .int .i64 (s.1 : Int))])
              (fun s => .ow cV3 27 s.2 (nodesP a b c ((i * b + j) * c + s.1)) :: As) (0, sw) (by simp only; omega) (by (exact Sub.au)) (by simp only [Nat.add_zero]; (exact Ents.au)) ?_
            rintro ⟨k, sx⟩ hk
            simp only at hk
            show Tri _ _ _ _ [(0, _), (8, sx), (9, _), (10, _), (41, _), (42, _), (47, _), (48, _), (53, _), (54, .int .i64 (k : Int))] (.ow cV3 27 sx (nodesP a b c ((i * b + j) * c + k)) :: _) _
            (repeat' (first | ((show TL _ _ _ _ (_ :: _) _ _ _; first | refine TL.fa ?_ | refine TL.ua ?_ | (refine TL.rba ?_; intro _) | (refine TL.rra ?_; first | rintro _ _ ⟨rfl, rfl⟩ | rintro _ _ rfl) | refine TL.offa ?_ | refine TL.off0a ?_ | refine TL.gu ?_ | fail)) | (first | refine Stp.h ?_ | refine Post.then_normal ?_ | refine Post.next ?_ | refine Post.block_other rfl ?_) | ((show Tri _ _ _ (.cond _ _ _) _ _ _; first | refine Tri.cTa ?_ | refine Tri.cFa ?_ | refine Tri.condTa ?_ | refine Tri.condFa ?_ | refine Tri.condNTa ?_ | refine Tri.condNFa ?_ | fail))))
            ((show Tri _ _ _ (.cond _ _ _) _ _ _; first | refine Tri.condP rfl (fun hc => ?_) (fun hc => ?_) | refine Tri.condN rfl (fun hc => ?_) (fun hc => ?_)))
            · have hlt := lt_cells (a := a) (b := b) (c := c) (i := i) (j := j) (k := k) (by omega) (by omega) (by omega)
              rw [hq] at hlt
              have hl := hlen ((i * b + j) * c + k) (by omega)
              have hon := on_at (a := a) (b := b) (c := c) (i := i) (j := j) (k := k) (by omega) (by omega)
              have hcell := cell_at (b := b) (c := c) (i := i) (j := j) (k := k) (by omega) (by omega)
              have hsucc := nodesP_succ (a := a) (b := b) (c := c) (n := (i * b + j) * c + k)
              rw [hon, hcell] at hsucc
              clear hon hcell
              (repeat' (first | ((show TL _ _ _ _ (_ :: _) _ _ _; first | refine TL.fa ?_ | refine TL.ua ?_ | (refine TL.rba ?_; intro _) | (refine TL.rra ?_; first | rintro _ _ ⟨rfl, rfl⟩ | rintro _ _ rfl) | refine TL.offa ?_ | refine TL.off0a ?_ | refine TL.gu ?_ | fail)) | (first | refine Stp.h ?_ | refine Post.then_normal ?_ | refine Post.next ?_ | refine Post.block_other rfl ?_) | ((show Tri _ _ _ (.cond _ _ _) _ _ _; first | refine Tri.cTa ?_ | refine Tri.cFa ?_ | refine Tri.condTa ?_ | refine Tri.condFa ?_ | refine Tri.condNTa ?_ | refine Tri.condNFa ?_ | fail)) | (first | refine TL.gsplit rfl rfl (fun hgs => ?_) (fun hgs => ?_) | refine TL.gsplitN rfl rfl (fun hgs => ?_) (fun hgs => ?_) | refine TT.gsplit rfl rfl rfl (fun hgs => ?_) (fun hgs => ?_) | refine TT.gsplitN rfl rfl rfl (fun hgs => ?_) (fun hgs => ?_)) | ((show Tri _ _ _ (.cond _ _ _) _ _ _; first | refine Tri.condP rfl (fun hc => ?_) (fun hc => ?_) | refine Tri.condN rfl (fun hc => ?_) (fun hc => ?_)))))
              all_goals first
                | (rename_i v9
                   rw [onI_iff.2 (by omega)] at hsucc
                   simp only [if_true] at hsucc
                   refine Post.round (k + 1, v9) (by simp only; omega) (by simp only; omega) (by (exact Sub.au)) ?_
                   rw [← Nat.add_assoc, hsucc]
                   (exact Ents.au))
                | skip
              have hno : onI a b c i j k = false := by
                rw [Bool.eq_false_iff]
                intro h
                have := onI_iff.1 h
                omega
              rw [hno] at hsucc
              simp only [Bool.false_eq_true, if_false, List.append_nil] at hsucc
              refine Post.round (k + 1, sx) (by simp only; omega) (by simp only; omega) (by (exact Sub.au)) ?_
              rw [← Nat.add_assoc, hsucc]
              (exact Ents.au)
            · (repeat' (first | ((show TL _ _ _ _ (_ :: _) _ _ _; first | refine TL.fa ?_ | refine TL.ua ?_ | (refine TL.rba ?_; intro _) | (refine TL.rra ?_; first | rintro _ _ ⟨rfl, rfl⟩ | rintro _ _ rfl) | refine TL.offa ?_ | refine TL.off0a ?_ | refine TL.gu ?_ | fail)) | (first | refine Stp.h ?_ | refine Post.then_normal ?_ | refine Post.next ?_ | refine Post.block_other rfl ?_) | (first | (show TT _ _ _ _ _ _ _ _ _; first | refine TT.takea ?_ | refine TT.takeMa ?_ | refine TT.takeOffa ?_ | refine TT.gu ?_ | fail) | exact TTs.nil | refine TTs.cons ?_ ?_ | (show T1 _ _ _ _ _ _ _ _ _ _; first | refine T1.ua ?_ | (refine T1.rba ?_; intro _) | (refine T1.rra ?_; first | rintro _ _ ⟨rfl, rfl⟩ | rintro _ _ rfl) | refine T1.fa ?_ | refine T1.offa ?_ | refine T1.off0a ?_ | fail) | (show TC _ _ _ _ _ _ _ _ _ _; first | refine TC.goa ?_ | refine TC.fina ?_ | fail)) | ((show Tri _ _ _ (.cond _ _ _) _ _ _; first | refine Tri.cTa ?_ | refine Tri.cFa ?_ | refine Tri.condTa ?_ | refine Tri.condFa ?_ | refine Tri.condNTa ?_ | refine Tri.condNFa ?_ | fail))))
              have hkc : k = c := by omega
              subst hkc
              refine Post.round (j + 1, sx) (by simp only; omega) (by simp only; omega) (by (exact Sub.au)) ?_
              rw [show (i * b + j) * k + k = (i * b + (j + 1)) * k by rw [← Nat.succ_mul]; rfl]
              (exact Ents.au)
          · (repeat' (first | ((show TL _ _ _ _ (_ :: _) _ _ _; first | refine TL.fa ?_ | refine TL.ua ?_ | (refine TL.rba ?_; intro _) | (refine TL.rra ?_; first | rintro _ _ ⟨rfl, rfl⟩ | rintro _ _ rfl) | refine TL.offa ?_ | refine TL.off0a ?_ | refine TL.gu ?_ | fail)) | (first | refine Stp.h ?_ | refine Post.then_normal ?_ | refine Post.next ?_ | refine Post.block_other rfl ?_) | ((show Tri _ _ _ (.cond _ _ _) _ _ _; first | refine Tri.cTa ?_ | refine Tri.cFa ?_ | refine Tri.condTa ?_ | refine Tri.condFa ?_ | refine Tri.condNTa ?_ | refine Tri.condNFa ?_ | fail))))
            have hjb : j = b := by omega
            subst hjb
            refine Post.round (i + 1, sw) (by simp only; omega) (by simp only; omega) (by (exact Sub.au)) ?_
            rw [show (i * j + j) * c = (i + 1) * j * c by rw [← Nat.succ_mul]]
            (exact Ents.au)
        · have hia : i = a := by omega
          subst hia
          (repeat' (first | ((show TL _ _ _ _ (_ :: _) _ _ _; first | refine TL.fa ?_ | refine TL.ua ?_ | (refine TL.rba ?_; intro _) | (refine TL.rra ?_; first | rintro _ _ ⟨rfl, rfl⟩ | rintro _ _ rfl) | refine TL.offa ?_ | refine TL.off0a ?_ | refine TL.gu ?_ | fail)) | (first | refine Stp.h ?_ | refine Post.then_normal ?_ | refine Post.next ?_ | refine Post.block_other rfl ?_) | ((show Tri _ _ _ (.cond _ _ _) _ _ _; first | refine Tri.cTa ?_ | refine Tri.cFa ?_ | refine Tri.condTa ?_ | refine Tri.condFa ?_ | refine Tri.condNTa ?_ | refine Tri.condNFa ?_ | fail))))
          ((try refine Post.ret_normal ?_); first | refine Post.r1a ?_ | refine Post.r2a ?_ | refine Post.r3a ?_ | refine Post.r0a ?_ | fail)
          exact ⟨_, ⟨_, rfl, rfl⟩, by unfold nodesF; rw [hq]; (exact Ents.au)⟩
    · (repeat' (first | ((show TL _ _ _ _ (_ :: _) _ _ _; first | refine TL.fa ?_ | refine TL.ua ?_ | (refine TL.rba ?_; intro _) | (refine TL.rra ?_; first | rintro _ _ ⟨rfl, rfl⟩ | rintro _ _ rfl) | refine TL.offa ?_ | refine TL.off0a ?_ | refine TL.gu ?_ | fail)) | (first | refine Stp.h ?_ | refine Post.then_normal ?_ | refine Post.next ?_ | refine Post.block_other rfl ?_) | ((show Tri _ _ _ (.cond _ _ _) _ _ _; first | refine Tri.cTa ?_ | refine Tri.cFa ?_ | refine Tri.condTa ?_ | refine Tri.condFa ?_ | refine Tri.condNTa ?_ | refine Tri.condNFa ?_ | fail))))
      refine Tri.unroll 4 ?_
      (repeat' (first | ((show TL _ _ _ _ (_ :: _) _ _ _; first | refine TL.fa ?_ | refine TL.ua ?_ | (refine TL.rba ?_; intro _) | (refine TL.rra ?_; first | rintro _ _ ⟨rfl, rfl⟩ | rintro _ _ rfl) | refine TL.offa ?_ | refine TL.off0a ?_ | refine TL.gu ?_ | fail)) | (first | refine Stp.h ?_ | refine Post.then_normal ?_ | refine Post.next ?_ | refine Post.block_other rfl ?_) | ((show Tri _ _ _ (.cond _ _ _) _ _ _; first | refine Tri.cTa ?_ | refine Tri.cFa ?_ | refine Tri.condTa ?_ | refine Tri.condFa ?_ | refine Tri.condNTa ?_ | refine Tri.condNFa ?_ | fail)) | (first | refine TL.gsplit rfl rfl (fun hgs => ?_) (fun hgs => ?_) | refine TL.gsplitN rfl rfl (fun hgs => ?_) (fun hgs => ?_) | refine TT.gsplit rfl rfl rfl (fun hgs => ?_) (fun hgs => ?_) | refine TT.gsplitN rfl rfl rfl (fun hgs => ?_) (fun hgs => ?_)) | ((show Tri _ _ _ (.cond _ _ _) _ _ _; first | refine Tri.condP rfl (fun hc => ?_) (fun hc => ?_) | refine Tri.condN rfl (fun hc => ?_) (fun hc => ?_)))))
      all_goals first
        | (exfalso; omega)
        | (((try refine Post.ret_normal ?_); first | refine Post.r1a ?_ | refine Post.r2a ?_ | refine Post.r3a ?_ | refine Post.r0a ?_ | fail)
           refine ⟨_, ⟨_, by rw [hxs, nodesR_no hin], rfl⟩, ?_⟩
           rw [hxs, nodesR_no hin]
           exact Ents.nilW cV3)
end Go.Proofs.YtjpghlljcibcjaaGreatDoor
