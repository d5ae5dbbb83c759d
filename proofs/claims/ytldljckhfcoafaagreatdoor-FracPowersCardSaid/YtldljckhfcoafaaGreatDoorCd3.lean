/- Walks: the reference on fractions: drafts with many digits. -/
import Derived.Test.YtldljckhfcoafaaGreatDoorCd1
namespace Go.Proofs.YtldljckhfcoafaaGreatDoor.Q
open Go Go.Sx
variable {w0 : World} {As : List Ent}
theorem size_small {b : Bool} {v : Value} {gs : List Nat} {z : Nat} : (⟨b, v, gs, z % 4⟩ : D01).size < 10 ^ 40 := by
  have h1 := groupsD_lt gs 12
  have h3 : (1000 : Nat) ^ 12 = 10 ^ 36 := by rw [show (1000 : Nat) = 10 ^ 3 from rfl, ← Nat.pow_mul]
  rw [h3] at h1
  show groupsD (gs.take 12) * 10 ^ (z % 4 % 501) < 10 ^ (36 + 4)
  exact mul_ten_lt h1 (by omega)
theorem draftF_ok (x : D02) [hn : RdIn As x.n.gv Nat (cN .u16) x.n.gs] [hm : RdIn As x.d.gv Nat (cN .u16) x.d.gs] (hd : x.ok) :
    CallsS Tryz.prog w0 19 [.agg x.cells.toArray] As (FracE 40 As) := by
  obtain ⟨⟨below, gv, gs, zeros⟩, ⟨below', gv', gs', zeros'⟩⟩ := x
  obtain ⟨⟨hg1, hg2, hg3⟩, ⟨hk1, hk2, hk3⟩⟩ := hd
  simp only at hg1 hg2 hg3 hk1 hk2 hk3
  replace hn : RdIn As gv Nat (cN .u16) gs := hn
  replace hm : RdIn As gv' Nat (cN .u16) gs' := hm
  refine CallsS.rdSl gv fun pg cg hgv => CallsS.rdSl gv' fun pg' cg' hgv' => ?_
  subst hgv hgv'
  refine CallsS.of_tri Tryz.func19 rfl Tryz.ntmps19 rfl ?_
  show Tri _ _ _ _ (env0 0 [.agg #[.bool below, .slice pg gs.length cg, .int .u16 (zeros : Int), .bool below', .slice pg' gs'.length cg', .int .u16 (zeros' : Int)]]) _ _
  (repeat' (first | (show TL _ _ _ _ (_ :: _) _ _ _; first | refine TL.sa ?_ | (refine TL.na ?_; intro _)) | (first | refine Stp.h ?_ | refine Post.then_normal ?_ | refine Post.next ?_ | refine Post.block_other rfl ?_) | refine Tri.ca ?_))
  rename_i b1 b2
  refine Tri.mid (fun e' As' => ∃ b3 b4, e' = [(2, .pointer (some ⟨b2, 0, none⟩)), (3, .pointer (some ⟨b3, 0, none⟩)), (4, .pointer (some ⟨b4, 0, none⟩))] ∧
    As' = .cl b3 [.bool below, .slice pg gs.length cg, .int .u16 (zeros : Int)] 28 :: .cl b4 [.bool below', .slice pg' gs'.length cg', .int .u16 (zeros' : Int)] 28 :: .cl b2 [.string ⟨#[]⟩, .string ⟨#[]⟩] 24 :: As) ?_ ?_
  · refine Tri.dw [.cl b1 [.bool below, .slice pg gs.length cg, .int .u16 (zeros : Int), .bool below', .slice pg' gs'.length cg', .int .u16 (zeros' : Int)] 30] [] (.take 0 (.take 1 (.take 2 (.take 3 (.all [(4, .all [(5, .all [(6, .all [(7, .done)])])]), (5, .all [(4, .all [(6, .all [(7, .done)])])])]))))) ?_
    (repeat' (first | (show TL _ _ _ _ (_ :: _) _ _ _; first | refine TL.sa ?_ | (refine TL.na ?_; intro _)) | (first | refine Stp.h ?_ | refine Post.then_normal ?_ | refine Post.next ?_ | refine Post.block_other rfl ?_) | (show TT _ _ _ _ _ _ _ _ _; refine TT.sa ?_) | exact TTs.nil | refine TTs.cons ?_ ?_ | (show T1 _ _ _ _ _ _ _ _ _ _; first | refine T1.sa ?_ | (refine T1.na ?_; intro _)) | (show TC _ _ _ _ _ _ _ _ _ _; first | refine TC.goa ?_ | refine TC.fina ?_) | refine Tri.ca ?_))
    all_goals exact Post.cut _ _ ⟨_, _, rfl, rfl⟩ (by (exact Sub.au)) (by (exact Ents.au))
  rintro _ _ ⟨b3, b4, rfl, rfl⟩
  (repeat' (first | (show TL _ _ _ _ (_ :: _) _ _ _; first | refine TL.sa ?_ | (refine TL.na ?_; intro _)) | (first | refine Stp.h ?_ | refine Post.then_normal ?_ | refine Post.next ?_ | refine Post.block_other rfl ?_) | (show TT _ _ _ _ _ _ _ _ _; refine TT.sa ?_) | exact TTs.nil | refine TTs.cons ?_ ?_ | (show T1 _ _ _ _ _ _ _ _ _ _; first | refine T1.sa ?_ | (refine T1.na ?_; intro _)) | (show TC _ _ _ _ _ _ _ _ _ _; first | refine TC.goa ?_ | refine TC.fina ?_) | refine Tri.ca ?_))
  refine Tri.mid (fun e' As' => e' = [(2, .pointer (some ⟨b2, 0, none⟩)), (3, .pointer (some ⟨b3, 0, none⟩)), (4, .pointer (some ⟨b4, 0, none⟩))] ∧
    As' = .cl b3 [.bool below, .slice pg gs.length cg, .int .u16 ((zeros % 4 : Nat) : Int)] 28 :: .cl b4 [.bool below', .slice pg' gs'.length cg', .int .u16 ((zeros' % 4 : Nat) : Int)] 28 :: .cl b2 [.string ⟨#[]⟩, .string ⟨#[]⟩] 24 :: As) ?_ ?_
  · refine Tri.dw [] [(1, .c b3), (4, .c b4)] (.take 0 (.take 1 (.take 2 (.take 3 (.take 4 (.take 5 (.take 6 (.all [(7, .take 8 (.all [(9, .done)]))])))))))) ?_
    (repeat' (first | (show TL _ _ _ _ (_ :: _) _ _ _; first | refine TL.sa ?_ | (refine TL.na ?_; intro _)) | (first | refine Stp.h ?_ | refine Post.then_normal ?_ | refine Post.next ?_ | refine Post.block_other rfl ?_) | (show TT _ _ _ _ _ _ _ _ _; refine TT.sa ?_) | exact TTs.nil | refine TTs.cons ?_ ?_ | (show T1 _ _ _ _ _ _ _ _ _ _; first | refine T1.sa ?_ | (refine T1.na ?_; intro _)) | (show TC _ _ _ _ _ _ _ _ _ _; first | refine TC.goa ?_ | refine TC.fina ?_) | refine Tri.ca ?_))
    all_goals
      rw [show (zeros : Int) % 4 = ((zeros % 4 : Nat) : Int) by omega, show (zeros' : Int) % 4 = ((zeros' % 4 : Nat) : Int) by omega]
      exact Post.cut _ _ ⟨rfl, rfl⟩ (by (exact Sub.au)) (by (exact Ents.au))
  rintro _ _ ⟨rfl, rfl⟩
  obtain ⟨X, hX⟩ : ∃ X : Int, X = D01.num ⟨below, .slice pg gs.length cg, gs, zeros % 4⟩ := ⟨_, rfl⟩
  obtain ⟨Y, hY⟩ : ∃ Y : Int, Y = D01.num ⟨below', .slice pg' gs'.length cg', gs', zeros' % 4⟩ := ⟨_, rfl⟩
  have wX : ∀ {Bs : List Ent} [RdIn Bs (.slice pg gs.length cg) Nat (cN .u16) gs], CallsS Tryz.prog w0 67 [.agg #[.bool below, .slice pg gs.length cg, .int .u16 ((zeros % 4 : Nat) : Int)]] Bs fun u Cs => u = .string ⟨(textI X).toArray⟩ ∧ Cs = Bs := by
    intro Bs hi
    rw [hX]
    exact @wholeR_ok w0 Bs ⟨below, .slice pg gs.length cg, gs, zeros % 4⟩ hi ⟨hg1, hg2, by show zeros % 4 ≤ _; omega⟩
  have wY : ∀ {Bs : List Ent} [RdIn Bs (.slice pg' gs'.length cg') Nat (cN .u16) gs'], CallsS Tryz.prog w0 67 [.agg #[.bool below', .slice pg' gs'.length cg', .int .u16 ((zeros' % 4 : Nat) : Int)]] Bs fun u Cs => u = .string ⟨(textI Y).toArray⟩ ∧ Cs = Bs := by
    intro Bs hi
    rw [hY]
    exact @wholeR_ok w0 Bs ⟨below', .slice pg' gs'.length cg', gs', zeros' % 4⟩ hi ⟨hk1, hk2, by show zeros' % 4 ≤ _; omega⟩
  have nX : X.natAbs < 10 ^ 40 := by rw [hX, D01.natAbs]; exact size_small
  have nY : Y.natAbs < 10 ^ 40 := by rw [hY, D01.natAbs]; exact size_small
  have dX : readW (textI X) = some X := readW_text (by rw [hX]; exact D01.digits _)
  have dY : readW (textI Y) = some Y := readW_text (by rw [hY]; exact D01.digits _)
  have qX : (qud X.natAbs).length ≤ 40 := qud_len_lt (Nat.lt_of_lt_of_le nX (Nat.pow_le_pow_left (by decide) 40))
  have qY : (qud Y.natAbs).length ≤ 40 := qud_len_lt (Nat.lt_of_lt_of_le nY (Nat.pow_le_pow_left (by decide) 40))
  clear hX hY
  (repeat' (first | (show TL _ _ _ _ (_ :: _) _ _ _; first | refine TL.sa ?_ | (refine TL.na ?_; intro _)) | (first | refine Stp.h ?_ | refine Post.then_normal ?_ | refine Post.next ?_ | refine Post.block_other rfl ?_) | refine Tri.ca ?_))
  refine Tri.mid (fun e' As' => ∃ p c q d b5 b6, e' = [(2, .pointer (some ⟨b2, 0, none⟩)), (5, .pointer (some ⟨b5, 0, none⟩)), (6, .pointer (some ⟨b6, 0, none⟩))] ∧
    As' = .cl b5 [.bool (decide (X < 0)), .slice p (qud X.natAbs).length c] 87 :: .cl b6 [.bool (decide (Y < 0)), .slice q (qud Y.natAbs).length d] 87 ::
      .ft (rd (cN .i64) (.slice p (qud X.natAbs).length c) (qud X.natAbs)) :: .ft (rd (cN .i64) (.slice q (qud Y.natAbs).length d) (qud Y.natAbs)) :: .cl b2 [.string ⟨#[]⟩, .string ⟨#[]⟩] 24 :: As) ?_ ?_
  · refine Tri.dw [.cl b3 [.bool below, .slice pg gs.length cg, .int .u16 ((zeros % 4 : Nat) : Int)] 28, .cl b4 [.bool below', .slice pg' gs'.length cg', .int .u16 ((zeros' % 4 : Nat) : Int)] 28] [] (.take 0 (.take 3 (.all [(1, .all [(2, .all [(4, .all [(5, .all [(6, .all [(7, .all [(8, .all [(9, .done)])])]), (7, .all [(6, .all [(8, .all [(9, .done)])])])]), (6, .all [(5, .all [(7, .all [(8, .all [(9, .done)])])]), (7, .all [(5, .all [(8, .all [(9, .done)])])])]), (7, .all [(5, .all [(6, .all [(8, .all [(9, .done)])])]), (6, .all [(5, .all [(8, .all [(9, .done)])])])])]), (6, .all [(4, .all [(5, .all [(7, .all [(8, .all [(9, .done)])])]), (7, .all [(5, .all [(8, .all [(9, .done)])])])]), (7, .all [(4, .all [(5, .all [(8, .all [(9, .done)])])])])]), (7, .all [(4, .all [(5, .all [(6, .all [(8, .all [(9, .done)])])]), (6, .all [(5, .all [(8, .all [(9, .done)])])])]), (6, .all [(4, .all [(5, .all [(8, .all [(9, .done)])])])])])]), (6, .all [(2, .all [(4, .all [(5, .all [(7, .all [(8, .all [(9, .done)])])]), (7, .all [(5, .all [(8, .all [(9, .done)])])])]), (7, .all [(4, .all [(5, .all [(8, .all [(9, .done)])])])])]), (7, .all [(2, .all [(4, .all [(5, .all [(8, .all [(9, .done)])])])])])]), (7, .all [(2, .all [(4, .all [(5, .all [(6, .all [(8, .all [(9, .done)])])]), (6, .all [(5, .all [(8, .all [(9, .done)])])])]), (6, .all [(4, .all [(5, .all [(8, .all [(9, .done)])])])])]), (6, .all [(2, .all [(4, .all [(5, .all [(8, .all [(9, .done)])])])])])])]), (6, .all [(1, .all [(2, .all [(4, .all [(5, .all [(7, .all [(8, .all [(9, .done)])])]), (7, .all [(5, .all [(8, .all [(9, .done)])])])]), (7, .all [(4, .all [(5, .all [(8, .all [(9, .done)])])])])]), (7, .all [(2, .all [(4, .all [(5, .all [(8, .all [(9, .done)])])])])])]), (7, .all [(1, .all [(2, .all [(4, .all [(5, .all [(8, .all [(9, .done)])])])])])])]), (7, .all [(1, .all [(2, .all [(4, .all [(5, .all [(6, .all [(8, .all [(9, .done)])])]), (6, .all [(5, .all [(8, .all [(9, .done)])])])]), (6, .all [(4, .all [(5, .all [(8, .all [(9, .done)])])])])]), (6, .all [(2, .all [(4, .all [(5, .all [(8, .all [(9, .done)])])])])])]), (6, .all [(1, .all [(2, .all [(4, .all [(5, .all [(8, .all [(9, .done)])])])])])])])]))) ?_
    (repeat' (first | (show TL _ _ _ _ (_ :: _) _ _ _; first | refine TL.sa ?_ | (refine TL.na ?_; intro _)) | (first | refine Stp.h ?_ | refine Post.then_normal ?_ | refine Post.next ?_ | refine Post.block_other rfl ?_) | (show TT _ _ _ _ _ _ _ _ _; refine TT.sa ?_) | exact TTs.nil | refine TTs.cons ?_ ?_ | (show T1 _ _ _ _ _ _ _ _ _ _; first | refine T1.sa ?_ | (refine T1.na ?_; intro _)) | (show TC _ _ _ _ _ _ _ _ _ _; first | refine TC.goa ?_ | refine TC.fina ?_) | refine Tri.ca ?_))
    iterate 4
      all_goals
        first
          | (refine T1.callv rfl rfl rfl rfl rfl wX ?_
             rintro _ _ ⟨rfl, rfl⟩)
          | (refine T1.callv rfl rfl rfl rfl rfl wY ?_
             rintro _ _ ⟨rfl, rfl⟩)
          | (refine T1.callv rfl rfl rfl rfl rfl (inR_ok dX) ?_
             rintro _ _ ⟨pA, cA, rfl, rfl⟩)
          | (refine T1.callv rfl rfl rfl rfl rfl (inR_ok dY) ?_
             rintro _ _ ⟨pB, cB, rfl, rfl⟩)
        (repeat' (first | (show TL _ _ _ _ (_ :: _) _ _ _; first | refine TL.sa ?_ | (refine TL.na ?_; intro _)) | (first | refine Stp.h ?_ | refine Post.then_normal ?_ | refine Post.next ?_ | refine Post.block_other rfl ?_) | (show TT _ _ _ _ _ _ _ _ _; refine TT.sa ?_) | exact TTs.nil | refine TTs.cons ?_ ?_ | (show T1 _ _ _ _ _ _ _ _ _ _; first | refine T1.sa ?_ | (refine T1.na ?_; intro _)) | (show TC _ _ _ _ _ _ _ _ _ _; first | refine TC.goa ?_ | refine TC.fina ?_) | refine Tri.ca ?_))
    all_goals exact Post.cut _ _ ⟨pA, cA, pB, cB, _, _, rfl, rfl⟩ (by (exact Sub.au)) (by (exact Ents.au))
  rintro _ _ ⟨p, c, q, d, b5, b6, rfl, rfl⟩
  (repeat' (first | (show TL _ _ _ _ (_ :: _) _ _ _; first | refine TL.sa ?_ | (refine TL.na ?_; intro _)) | (first | refine Stp.h ?_ | refine Post.then_normal ?_ | refine Post.next ?_ | refine Post.block_other rfl ?_) | (show TT _ _ _ _ _ _ _ _ _; refine TT.sa ?_) | exact TTs.nil | refine TTs.cons ?_ ?_ | (show T1 _ _ _ _ _ _ _ _ _ _; first | refine T1.sa ?_ | (refine T1.na ?_; intro _)) | (show TC _ _ _ _ _ _ _ _ _ _; first | refine TC.goa ?_ | refine TC.fina ?_) | refine Tri.ca ?_))
  refine Tri.mid (fun e' As' => ∃ (Z : Int) (q : Option Addr) (d : Nat), Z ≠ 0 ∧ Z.natAbs < 10 ^ 40 ∧ (qud Z.natAbs).length ≤ 40 ∧ e' = [(2, .pointer (some ⟨b2, 0, none⟩)), (5, .pointer (some ⟨b5, 0, none⟩)), (6, .pointer (some ⟨b6, 0, none⟩))] ∧
    As' = .cl b5 [.bool (decide (X < 0)), .slice p (qud X.natAbs).length c] 87 :: .cl b6 [.bool (decide (Z < 0)), .slice q (qud Z.natAbs).length d] 87 ::
      .ft (rd (cN .i64) (.slice p (qud X.natAbs).length c) (qud X.natAbs)) :: .ft (rd (cN .i64) (.slice q (qud Z.natAbs).length d) (qud Z.natAbs)) :: .cl b2 [.string ⟨#[]⟩, .string ⟨#[]⟩] 24 :: As) ?_ ?_
  · by_cases h0 : Y = 0
    · have hz : (qud Y.natAbs).length = 0 := by rw [h0]; exact qud_len0.2 rfl
      have hz' : ((qud Y.natAbs).length : Int) = 0 := by omega
      (repeat' (first | (show TL _ _ _ _ (_ :: _) _ _ _; first | refine TL.sa ?_ | (refine TL.na ?_; intro _)) | (first | refine Stp.h ?_ | refine Post.then_normal ?_ | refine Post.next ?_ | refine Post.block_other rfl ?_) | (show TT _ _ _ _ _ _ _ _ _; refine TT.sa ?_) | exact TTs.nil | refine TTs.cons ?_ ?_ | (show T1 _ _ _ _ _ _ _ _ _ _; first | refine T1.sa ?_ | (refine T1.na ?_; intro _)) | (show TC _ _ _ _ _ _ _ _ _ _; first | refine TC.goa ?_ | refine TC.fina ?_) | refine Tri.ca ?_))
      refine TL.call rfl rfl rfl (integerR_ok (n := 1) (by omega) (by omega)) ?_
      rintro _ _ ⟨p9, c9, rfl, rfl⟩
      (repeat' (first | (show TL _ _ _ _ (_ :: _) _ _ _; first | refine TL.sa ?_ | (refine TL.na ?_; intro _)) | (first | refine Stp.h ?_ | refine Post.then_normal ?_ | refine Post.next ?_ | refine Post.block_other rfl ?_) | (show TT _ _ _ _ _ _ _ _ _; refine TT.sa ?_) | exact TTs.nil | refine TTs.cons ?_ ?_ | (show T1 _ _ _ _ _ _ _ _ _ _; first | refine T1.sa ?_ | (refine T1.na ?_; intro _)) | (show TC _ _ _ _ _ _ _ _ _ _; first | refine TC.goa ?_ | refine TC.fina ?_) | refine Tri.ca ?_))
      exact Post.cut _ _ ⟨1, p9, c9, by decide, by decide, qud_len_lt (by decide), rfl, rfl⟩ (by (exact Sub.au)) (by (exact Ents.au))
    · have hz : (qud Y.natAbs).length ≠ 0 := fun h => h0 (by have := qud_len0.1 h; omega)
      have hz' : ¬ ((qud Y.natAbs).length : Int) = 0 := by omega
      (repeat' (first | (show TL _ _ _ _ (_ :: _) _ _ _; first | refine TL.sa ?_ | (refine TL.na ?_; intro _)) | (first | refine Stp.h ?_ | refine Post.then_normal ?_ | refine Post.next ?_ | refine Post.block_other rfl ?_) | (show TT _ _ _ _ _ _ _ _ _; refine TT.sa ?_) | exact TTs.nil | refine TTs.cons ?_ ?_ | (show T1 _ _ _ _ _ _ _ _ _ _; first | refine T1.sa ?_ | (refine T1.na ?_; intro _)) | (show TC _ _ _ _ _ _ _ _ _ _; first | refine TC.goa ?_ | refine TC.fina ?_) | refine Tri.ca ?_))
      exact Post.cut _ _ ⟨Y, q, d, h0, nY, qY, rfl, rfl⟩ (by (exact Sub.au)) (by (exact Ents.au))
  rintro _ _ ⟨Z, q, d, hZ, nZ, qZ, rfl, rfl⟩
  (repeat' (first | (show TL _ _ _ _ (_ :: _) _ _ _; first | refine TL.sa ?_ | (refine TL.na ?_; intro _)) | (first | refine Stp.h ?_ | refine Post.then_normal ?_ | refine Post.next ?_ | refine Post.block_other rfl ?_) | (show TT _ _ _ _ _ _ _ _ _; refine TT.sa ?_) | exact TTs.nil | refine TTs.cons ?_ ?_ | (show T1 _ _ _ _ _ _ _ _ _ _; first | refine T1.sa ?_ | (refine T1.na ?_; intro _)) | (show TC _ _ _ _ _ _ _ _ _ _; first | refine TC.goa ?_ | refine TC.fina ?_) | refine Tri.ca ?_))
  refine TL.callv rfl rfl rfl rfl (lowest_ok (v := .slice p (qud X.natAbs).length c) (o := .slice q (qud Z.natAbs).length d) (x := X) (y := Z) hZ (by omega) (by omega)) ?_
  rintro _ _ ⟨p3, c3, p4, c4, rfl, rfl⟩
  have hfit : Fit 40 (mkRat (if Z < 0 then -X else X) Z.natAbs) := mkRat_fit (by decide) (by omega) (by split <;> omega) nZ
  generalize mkRat (if Z < 0 then -X else X) Z.natAbs = r at hfit ⊢
  obtain ⟨lq1, lq2⟩ := hfit.qud
  (repeat' (first | (show TL _ _ _ _ (_ :: _) _ _ _; first | refine TL.sa ?_ | (refine TL.na ?_; intro _)) | (first | refine Stp.h ?_ | refine Post.then_normal ?_ | refine Post.next ?_ | refine Post.block_other rfl ?_) | refine Tri.ca ?_))
  refine TL.callv rfl rfl rfl rfl (outP_ok (v := .slice p3 (qud r.num.natAbs).length c3) (o := .slice p4 (qud (r.den : Int).natAbs).length c4) (r := r) (by omega) (by rw [Int.natAbs_natCast]; omega)) ?_
  rw [(hfit.mono (by decide)).out]
  rintro _ _ ⟨rfl, rfl⟩
  (repeat' (first | (show TL _ _ _ _ (_ :: _) _ _ _; first | refine TL.sa ?_ | (refine TL.na ?_; intro _)) | (first | refine Stp.h ?_ | refine Post.then_normal ?_ | refine Post.next ?_ | refine Post.block_other rfl ?_) | refine Tri.ca ?_))
  (refine Post.ra ?_)
  exact ⟨_, ⟨r, hfit, rfl, rfl⟩, by (exact Ents.au)⟩
end Go.Proofs.YtldljckhfcoafaaGreatDoor.Q
