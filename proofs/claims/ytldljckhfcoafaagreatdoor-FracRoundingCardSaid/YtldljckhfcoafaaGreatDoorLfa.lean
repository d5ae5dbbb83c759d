/- Walks: the law of rounding. -/
import Derived.Test.YtldljckhfcoafaaGreatDoorLf5
namespace Go.Proofs.YtldljckhfcoafaaGreatDoor.Q
open Go Go.Sx
variable {w0 : World} {As : List Ent}
set_option maxRecDepth 100000 in
set_option maxHeartbeats 8000000 in
theorem fracRounding_ok (ht : Tab w0) (he : ErrR w0) (hm : LenR w0) (x : D02) {n m : Nat} (hn8 : n ≤ 4294967295) (hm8 : m ≤ 4294967295) (kx : x.ok)
    [r1 : RdIn As x.n.gv Nat (cN .u16) x.n.gs] [r2 : RdIn As x.d.gv Nat (cN .u16) x.d.gs] :
    CallsS Tryz.prog w0 8 [.agg x.cells.toArray, .int .u32 (n : Int), .int .u32 (m : Int)] As fun u _ => u = .bool true := by
  obtain ⟨⟨hx1, gx, lx, zx⟩, ⟨hx1', gx', lx', zx'⟩⟩ := x
  replace r1 : RdIn As gx Nat (cN .u16) lx := r1
  replace r2 : RdIn As gx' Nat (cN .u16) lx' := r2
  refine CallsS.rdSl gx fun p0 c0 e0 => ?_
  refine CallsS.rdSl gx' fun p1 c1 e1 => ?_
  subst e0 e1
  have fx : ∀ {Bs : List Ent} [i1 : RdIn Bs (.slice p0 lx.length c0) Nat (cN .u16) lx] [i2 : RdIn Bs (.slice p1 lx'.length c1) Nat (cN .u16) lx'], CallsS Tryz.prog w0 19 [.agg #[.bool hx1, .slice p0 lx.length c0, .int .u16 (zx : Int), .bool hx1', .slice p1 lx'.length c1, .int .u16 (zx' : Int)]] Bs (FracS 40 Bs) :=
    fun {Bs} i1 i2 => @draftF_ok w0 Bs ⟨⟨hx1, .slice p0 lx.length c0, lx, zx⟩, ⟨hx1', .slice p1 lx'.length c1, lx', zx'⟩⟩ i1 i2 kx
  clear kx
  refine CallsS.of_tri Tryz.func8 rfl Tryz.ntmps8 rfl ?_
  show Tri _ _ _ _ (env0 0 [.agg #[.bool hx1, .slice p0 lx.length c0, .int .u16 (zx : Int), .bool hx1', .slice p1 lx'.length c1, .int .u16 (zx' : Int)], .int .u32 (n : Int), .int .u32 (m : Int)]) _ _
  (repeat' (first | (show TL _ _ _ _ (_ :: _) _ _ _; first | refine TL.sa ?_ | (refine TL.na ?_; intro _)) | (first | refine Stp.h ?_ | refine Post.then_normal ?_ | refine Post.next ?_ | refine Post.block_other rfl ?_) | refine Tri.ca ?_))
  rename_i b3
  refine TL.call rfl rfl rfl (works02_ok ht he hm) ?_
  rintro _ _ ⟨rfl, rfl⟩
  (repeat' (first | (show TL _ _ _ _ (_ :: _) _ _ _; first | refine TL.sa ?_ | (refine TL.na ?_; intro _)) | (first | refine Stp.h ?_ | refine Post.then_normal ?_ | refine Post.next ?_ | refine Post.block_other rfl ?_) | refine Tri.ca ?_))
  refine TL.callv rfl rfl rfl rfl fx ?_
  rintro _ _ ⟨a, ha, rfl, rfl⟩
  clear fx
  have ha6 : Fit 600 a := ha.mono (by decide)
  have hF : Lib.nDigits (a.num / (a.den : Int)).natAbs ≤ 40 := nDigits_lt (by decide) (Nat.lt_of_le_of_lt (natAbs_ediv_le _ _) (lt_of_digits ha.1))
  have fF : Fit 40 ((a.num / (a.den : Int) : Int) : Rat) := fit_int (by decide) hF
  have f1 : Fit 1 (1 : Rat) := Fit.of (by decide) (by decide) (by decide)
  have fh : Fit 1 (mkRat 1 2) := Fit.of (by decide) (by decide) (by decide)
  obtain ⟨g1, g2⟩ := floor_bound a
  (repeat' (first | (show TL _ _ _ _ (_ :: _) _ _ _; first | refine TL.sa ?_ | (refine TL.na ?_; intro _)) | (first | refine Stp.h ?_ | refine Post.then_normal ?_ | refine Post.next ?_ | refine Post.block_other rfl ?_) | refine Tri.ca ?_))
  rename_i b7
  refine TL.callv rfl rfl rfl rfl (floorV_ok ht (r := a) ha6) ?_
  rintro _ _ ⟨rfl, rfl⟩
  (repeat' (first | (show TL _ _ _ _ (_ :: _) _ _ _; first | refine TL.sa ?_ | (refine TL.na ?_; intro _)) | (first | refine Stp.h ?_ | refine Post.then_normal ?_ | refine Post.next ?_ | refine Post.block_other rfl ?_) | refine Tri.ca ?_))
  refine TL.callv rfl rfl rfl rfl (makeV_ok ht (z := a.num / (a.den : Int)) (by omega)) ?_
  generalize ((a.num / (a.den : Int) : Int) : Rat) = L at fF g1 g2 ⊢
  rintro _ _ ⟨rfl, rfl⟩
  have fL6 : Fit 600 L := fF.mono (by decide)
  have fL1 : Fit 600 (L + 1) := (fF.add f1).mono (by decide)
  (repeat' (first | (show TL _ _ _ _ (_ :: _) _ _ _; first | refine TL.sa ?_ | (refine TL.na ?_; intro _)) | (first | refine Stp.h ?_ | refine Post.then_normal ?_ | refine Post.next ?_ | refine Post.block_other rfl ?_) | refine Tri.ca ?_))
  rename_i b10
  have f16 : Fit 600 (1 : Rat) := f1.mono (by decide)
  have fh6 : Fit 600 (mkRat 1 2) := fh.mono (by decide)
  refine Tri.mid (fun e' As' => ∃ b12, e' = [(1, .int .u32 (n : Int)), (2, .int .u32 (m : Int)), (7, .pointer (some ⟨b7, 0, none⟩)), (9, .int .i64 0), (10, .pointer (some ⟨b10, 0, none⟩)), (11, .int .i64 0), (12, .pointer (some ⟨b12, 0, none⟩)), (13, .int .i64 0)] ∧
    As' = .cl b12 [.string ⟨(tN (L + 1)).toArray⟩, .string ⟨(tD (L + 1)).toArray⟩] 24 :: .cl b10 [.string ⟨(tN L).toArray⟩, .string ⟨(tD L).toArray⟩] 24 :: .cl b7 [.string ⟨(tN a).toArray⟩, .string ⟨(tD a).toArray⟩] 24 :: As) ?_ ?_
  · refine Tri.dw [.cl b10 [.string ⟨(tN L).toArray⟩, .string ⟨(tD L).toArray⟩] 24] [] (.take 0 (.all [(1, .all [(2, .take 3 (.take 4 (.take 5 (.all [(6, .all [(7, .take 8 (.done))])])))), (6, .all [(2, .take 3 (.take 4 (.take 5 (.all [(7, .take 8 (.done))]))))])]), (6, .all [(1, .all [(2, .take 3 (.take 4 (.take 5 (.all [(7, .take 8 (.done))]))))])])])) ?_
    (repeat' (first | (show TL _ _ _ _ (_ :: _) _ _ _; first | refine TL.sa ?_ | (refine TL.na ?_; intro _)) | (first | refine Stp.h ?_ | refine Post.then_normal ?_ | refine Post.next ?_ | refine Post.block_other rfl ?_) | (show TT _ _ _ _ _ _ _ _ _; refine TT.sa ?_) | exact TTs.nil | refine TTs.cons ?_ ?_ | (show T1 _ _ _ _ _ _ _ _ _ _; first | refine T1.sa ?_ | (refine T1.na ?_; intro _)) | (show TC _ _ _ _ _ _ _ _ _ _; first | refine TC.goa ?_ | refine TC.fina ?_) | refine Tri.ca ?_))
    iterate 2
      all_goals
        first
          | (refine T1.callv rfl rfl rfl rfl rfl (qT_ok ht (n := 1) (d := 1) (r := 1) (by decide) (by decide) (by decide +kernel) f16) ?_
             rintro _ _ ⟨rfl, rfl⟩)
          | (refine T1.callv rfl rfl rfl rfl rfl (addT_ok ht (r := L) (s := 1) fL6 f16 fL1) ?_
             rintro _ _ ⟨rfl, rfl⟩)
        (repeat' (first | (show TL _ _ _ _ (_ :: _) _ _ _; first | refine TL.sa ?_ | (refine TL.na ?_; intro _)) | (first | refine Stp.h ?_ | refine Post.then_normal ?_ | refine Post.next ?_ | refine Post.block_other rfl ?_) | (show TT _ _ _ _ _ _ _ _ _; refine TT.sa ?_) | exact TTs.nil | refine TTs.cons ?_ ?_ | (show T1 _ _ _ _ _ _ _ _ _ _; first | refine T1.sa ?_ | (refine T1.na ?_; intro _)) | (show TC _ _ _ _ _ _ _ _ _ _; first | refine TC.goa ?_ | refine TC.fina ?_) | refine Tri.ca ?_))
    all_goals exact Post.cut _ _ ⟨_, rfl, rfl⟩ (by (exact Sub.au)) (by (exact Ents.au))
  rintro _ _ ⟨b12, rfl, rfl⟩
  (repeat' (first | (show TL _ _ _ _ (_ :: _) _ _ _; first | refine TL.sa ?_ | (refine TL.na ?_; intro _)) | (first | refine Stp.h ?_ | refine Post.then_normal ?_ | refine Post.next ?_ | refine Post.block_other rfl ?_) | (show TT _ _ _ _ _ _ _ _ _; refine TT.sa ?_) | exact TTs.nil | refine TTs.cons ?_ ?_ | (show T1 _ _ _ _ _ _ _ _ _ _; first | refine T1.sa ?_ | (refine T1.na ?_; intro _)) | (show TC _ _ _ _ _ _ _ _ _ _; first | refine TC.goa ?_ | refine TC.fina ?_) | refine Tri.ca ?_))
  refine TL.callv rfl rfl rfl rfl (cmpT_ok (r := L) (s := a) fL6 ha6) ?_
  rintro _ _ ⟨rfl, rfl⟩
  (repeat' (first | (show TL _ _ _ _ (_ :: _) _ _ _; first | refine TL.sa ?_ | (refine TL.na ?_; intro _)) | (first | refine Stp.h ?_ | refine Post.then_normal ?_ | refine Post.next ?_ | refine Post.block_other rfl ?_) | (show TT _ _ _ _ _ _ _ _ _; refine TT.sa ?_) | exact TTs.nil | refine TTs.cons ?_ ?_ | (show T1 _ _ _ _ _ _ _ _ _ _; first | refine T1.sa ?_ | (refine T1.na ?_; intro _)) | (show TC _ _ _ _ _ _ _ _ _ _; first | refine TC.goa ?_ | refine TC.fina ?_) | refine Tri.ca ?_))
  refine TL.callv rfl rfl rfl rfl (cmpT_ok (r := L + 1) (s := a) fL1 ha6) ?_
  rintro _ _ ⟨rfl, rfl⟩
  have o1 : ¬ 0 < ordQ L a := fun h => g1 (ordQ_gt.1 h)
  have o2 : ¬ ordQ (L + 1) a ≤ 0 := by have := ordQ_gt.2 g2; omega
  generalize ordQ L a = O1 at o1 ⊢
  generalize ordQ (L + 1) a = O2 at o2 ⊢
  (repeat' (first | (show TL _ _ _ _ (_ :: _) _ _ _; first | refine TL.sa ?_ | (refine TL.na ?_; intro _)) | (first | refine Stp.h ?_ | refine Post.then_normal ?_ | refine Post.next ?_ | refine Post.block_other rfl ?_) | (show TT _ _ _ _ _ _ _ _ _; refine TT.sa ?_) | exact TTs.nil | refine TTs.cons ?_ ?_ | (show T1 _ _ _ _ _ _ _ _ _ _; first | refine T1.sa ?_ | (refine T1.na ?_; intro _)) | (show TC _ _ _ _ _ _ _ _ _ _; first | refine TC.goa ?_ | refine TC.fina ?_) | refine Tri.ca ?_))
  clear o1 o2 hF fF g1 g2 fL6 fL1
  refine TL.callv rfl rfl rfl rfl (qT_ok ht (n := 1) (d := 2) (r := mkRat 1 2) (by decide) (by decide) (by decide +kernel) fh6) ?_
  rintro _ _ ⟨rfl, rfl⟩
  (repeat' (first | (show TL _ _ _ _ (_ :: _) _ _ _; first | refine TL.sa ?_ | (refine TL.na ?_; intro _)) | (first | refine Stp.h ?_ | refine Post.then_normal ?_ | refine Post.next ?_ | refine Post.block_other rfl ?_) | (show TT _ _ _ _ _ _ _ _ _; refine TT.sa ?_) | exact TTs.nil | refine TTs.cons ?_ ?_ | (show T1 _ _ _ _ _ _ _ _ _ _; first | refine T1.sa ?_ | (refine T1.na ?_; intro _)) | (show TC _ _ _ _ _ _ _ _ _ _; first | refine TC.goa ?_ | refine TC.fina ?_) | refine Tri.ca ?_))
  rename_i b19
  obtain ⟨K, hK⟩ : ∃ K, K = n + 1 := ⟨_, rfl⟩
  have hKn : (1 : Int) + (n : Int) = (K : Int) := by omega
  rw [hKn]
  have hO : ((nearO (some a) (K : Int)).2 = 0 ∧ (nearO (some a) (K : Int)).1 = nearQ a K ∧ -9223372036854775808 ≤ nearQ a K ∧ nearQ a K ≤ 9223372036854775807) ∨ (nearO (some a) (K : Int)).2 = 6 := by
    unfold nearO
    simp only
    rw [if_pos (by omega), Int.toNat_natCast]
    split
    · rename_i h; exact .inl ⟨rfl, rfl, h⟩
    · exact .inr rfl
  refine TL.callv rfl rfl rfl rfl (nearV_ok ht he (r := a) (k := (K : Int)) ha6) ?_
  generalize nearO (some a) (K : Int) = o at hO ⊢
  obtain ⟨o1, o2⟩ := o
  simp only at hO
  rintro _ _ ⟨rfl, rfl⟩
  (repeat' (first | (show TL _ _ _ _ (_ :: _) _ _ _; first | refine TL.sa ?_ | (refine TL.na ?_; intro _)) | (first | refine Stp.h ?_ | refine Post.then_normal ?_ | refine Post.next ?_ | refine Post.block_other rfl ?_) | refine Tri.ca ?_))
  refine Tri.mid (fun e' As' => e' = [(2, .int .u32 (m : Int)), (7, .pointer (some ⟨b7, 0, none⟩)), (19, .pointer (some ⟨b19, 0, none⟩))] ∧
    As' = .cl b19 [.string ⟨(tN (mkRat 1 2)).toArray⟩, .string ⟨(tD (mkRat 1 2)).toArray⟩] 24 :: .cl b7 [.string ⟨(tN a).toArray⟩, .string ⟨(tD a).toArray⟩] 24 :: As) ?_ ?_
  · rcases hO with ⟨rfl, rfl, hz1, hz2⟩ | rfl
    · have fK : Fit 600 (K : Rat) := by
        have : ((K : Int) : Rat) = (K : Rat) := rfl
        rw [← this]
        exact (fit_intS (by omega)).mono (by decide)
      have fK19 : Fit 19 (K : Rat) := by
        have : ((K : Int) : Rat) = (K : Rat) := rfl
        rw [← this]
        exact fit_intS (by omega)
      have fZ : Fit 19 ((nearQ a K : Int) : Rat) := fit_intS ⟨hz1, hz2⟩
      have fP : Fit 600 (a * (K : Rat)) := (ha.mul fK19).mono (by decide)
      have fD : Fit 600 (((nearQ a K : Int) : Rat) - a * (K : Rat)) := (fZ.sub (ha.mul fK19)).mono (by decide)
      have hq : mkRat (nearQ a K) 1 = ((nearQ a K : Int) : Rat) := Rat.mkRat_one _
      obtain ⟨n1, n2⟩ := near_bound a K
      generalize nearQ a K = z at hz1 hz2 fZ fD hq n1 n2 ⊢
      have fZ6 : Fit 600 (z : Rat) := fZ.mono (by decide)
      generalize (z : Rat) = Z at fZ fD hq n1 n2 fZ6 ⊢
      (repeat' (first | (show TL _ _ _ _ (_ :: _) _ _ _; first | refine TL.sa ?_ | (refine TL.na ?_; intro _)) | (first | refine Stp.h ?_ | refine Post.then_normal ?_ | refine Post.next ?_ | refine Post.block_other rfl ?_) | refine Tri.ca ?_))
      refine Tri.mid (fun e' As' => ∃ b22, e' = [(2, .int .u32 (m : Int)), (7, .pointer (some ⟨b7, 0, none⟩)), (19, .pointer (some ⟨b19, 0, none⟩)), (20, .int .i64 z), (22, .pointer (some ⟨b22, 0, none⟩)), (23, .int .i64 0)] ∧
        As' = .cl b22 [.string ⟨(tN (a * (K : Rat))).toArray⟩, .string ⟨(tD (a * (K : Rat))).toArray⟩] 24 :: .cl b19 [.string ⟨(tN (mkRat 1 2)).toArray⟩, .string ⟨(tD (mkRat 1 2)).toArray⟩] 24 :: .cl b7 [.string ⟨(tN a).toArray⟩, .string ⟨(tD a).toArray⟩] 24 :: As) ?_ ?_
      · refine Tri.dw [.cl b7 [.string ⟨(tN a).toArray⟩, .string ⟨(tD a).toArray⟩] 24] [] (.take 0 (.take 1 (.all [(2, .all [(3, .take 4 (.take 5 (.take 6 (.all [(7, .all [(8, .take 9 (.done))])])))), (7, .all [(3, .take 4 (.take 5 (.take 6 (.all [(8, .take 9 (.done))]))))])]), (7, .all [(2, .all [(3, .take 4 (.take 5 (.take 6 (.all [(8, .take 9 (.done))]))))])])]))) ?_
        (repeat' (first | (show TL _ _ _ _ (_ :: _) _ _ _; first | refine TL.sa ?_ | (refine TL.na ?_; intro _)) | (first | refine Stp.h ?_ | refine Post.then_normal ?_ | refine Post.next ?_ | refine Post.block_other rfl ?_) | (show TT _ _ _ _ _ _ _ _ _; refine TT.sa ?_) | exact TTs.nil | refine TTs.cons ?_ ?_ | (show T1 _ _ _ _ _ _ _ _ _ _; first | refine T1.sa ?_ | (refine T1.na ?_; intro _)) | (show TC _ _ _ _ _ _ _ _ _ _; first | refine TC.goa ?_ | refine TC.fina ?_) | refine Tri.ca ?_))
        iterate 2
          all_goals
            first
              | (refine T1.callv rfl rfl rfl rfl rfl (qT_ok ht (n := (K : Int)) (d := 1) (r := (K : Rat)) (by omega) (by decide) (rat_nat K) fK) ?_
                 rintro _ _ ⟨rfl, rfl⟩)
              | (refine T1.callv rfl rfl rfl rfl rfl (mulT_ok ht (r := a) (s := (K : Rat)) ha6 fK fP) ?_
                 rintro _ _ ⟨rfl, rfl⟩)
            (repeat' (first | (show TL _ _ _ _ (_ :: _) _ _ _; first | refine TL.sa ?_ | (refine TL.na ?_; intro _)) | (first | refine Stp.h ?_ | refine Post.then_normal ?_ | refine Post.next ?_ | refine Post.block_other rfl ?_) | (show TT _ _ _ _ _ _ _ _ _; refine TT.sa ?_) | exact TTs.nil | refine TTs.cons ?_ ?_ | (show T1 _ _ _ _ _ _ _ _ _ _; first | refine T1.sa ?_ | (refine T1.na ?_; intro _)) | (show TC _ _ _ _ _ _ _ _ _ _; first | refine TC.goa ?_ | refine TC.fina ?_) | refine Tri.ca ?_))
        all_goals exact Post.cut _ _ ⟨_, rfl, rfl⟩ (by (exact Sub.au)) (by (exact Ents.au))
      rintro _ _ ⟨b22, rfl, rfl⟩
      (repeat' (first | (show TL _ _ _ _ (_ :: _) _ _ _; first | refine TL.sa ?_ | (refine TL.na ?_; intro _)) | (first | refine Stp.h ?_ | refine Post.then_normal ?_ | refine Post.next ?_ | refine Post.block_other rfl ?_) | (show TT _ _ _ _ _ _ _ _ _; refine TT.sa ?_) | exact TTs.nil | refine TTs.cons ?_ ?_ | (show T1 _ _ _ _ _ _ _ _ _ _; first | refine T1.sa ?_ | (refine T1.na ?_; intro _)) | (show TC _ _ _ _ _ _ _ _ _ _; first | refine TC.goa ?_ | refine TC.fina ?_) | refine Tri.ca ?_))
      refine Tri.mid (fun e' As' => ∃ b24, e' = [(2, .int .u32 (m : Int)), (7, .pointer (some ⟨b7, 0, none⟩)), (19, .pointer (some ⟨b19, 0, none⟩)), (23, .int .i64 0), (24, .pointer (some ⟨b24, 0, none⟩)), (25, .int .i64 0)] ∧
        As' = .cl b24 [.string ⟨(tN (Z - a * (K : Rat))).toArray⟩, .string ⟨(tD (Z - a * (K : Rat))).toArray⟩] 24 :: .cl b19 [.string ⟨(tN (mkRat 1 2)).toArray⟩, .string ⟨(tD (mkRat 1 2)).toArray⟩] 24 :: .cl b7 [.string ⟨(tN a).toArray⟩, .string ⟨(tD a).toArray⟩] 24 :: As) ?_ ?_
      · refine Tri.dw [.cl b22 [.string ⟨(tN (a * (K : Rat))).toArray⟩, .string ⟨(tD (a * (K : Rat))).toArray⟩] 24] [] (.take 0 (.take 2 (.all [(1, .all [(3, .take 4 (.take 5 (.take 6 (.all [(7, .all [(8, .take 9 (.done))])])))), (7, .all [(3, .take 4 (.take 5 (.take 6 (.all [(8, .take 9 (.done))]))))])]), (7, .all [(1, .all [(3, .take 4 (.take 5 (.take 6 (.all [(8, .take 9 (.done))]))))])])]))) ?_
        (repeat' (first | (show TL _ _ _ _ (_ :: _) _ _ _; first | refine TL.sa ?_ | (refine TL.na ?_; intro _)) | (first | refine Stp.h ?_ | refine Post.then_normal ?_ | refine Post.next ?_ | refine Post.block_other rfl ?_) | (show TT _ _ _ _ _ _ _ _ _; refine TT.sa ?_) | exact TTs.nil | refine TTs.cons ?_ ?_ | (show T1 _ _ _ _ _ _ _ _ _ _; first | refine T1.sa ?_ | (refine T1.na ?_; intro _)) | (show TC _ _ _ _ _ _ _ _ _ _; first | refine TC.goa ?_ | refine TC.fina ?_) | refine Tri.ca ?_))
        iterate 2
          all_goals
            first
              | (refine T1.callv rfl rfl rfl rfl rfl (qT_ok ht (n := z) (d := 1) (r := Z) ⟨hz1, hz2⟩ (by decide) hq fZ6) ?_
                 rintro _ _ ⟨rfl, rfl⟩)
              | (refine T1.callv rfl rfl rfl rfl rfl (subT_ok ht (r := Z) (s := a * (K : Rat)) fZ6 fP fD) ?_
                 rintro _ _ ⟨rfl, rfl⟩)
            (repeat' (first | (show TL _ _ _ _ (_ :: _) _ _ _; first | refine TL.sa ?_ | (refine TL.na ?_; intro _)) | (first | refine Stp.h ?_ | refine Post.then_normal ?_ | refine Post.next ?_ | refine Post.block_other rfl ?_) | (show TT _ _ _ _ _ _ _ _ _; refine TT.sa ?_) | exact TTs.nil | refine TTs.cons ?_ ?_ | (show T1 _ _ _ _ _ _ _ _ _ _; first | refine T1.sa ?_ | (refine T1.na ?_; intro _)) | (show TC _ _ _ _ _ _ _ _ _ _; first | refine TC.goa ?_ | refine TC.fina ?_) | refine Tri.ca ?_))
        all_goals exact Post.cut _ _ ⟨_, rfl, rfl⟩ (by (exact Sub.au)) (by (exact Ents.au))
      rintro _ _ ⟨b24, rfl, rfl⟩
      generalize Z - a * (K : Rat) = D at fD n1 n2 ⊢
      (repeat' (first | (show TL _ _ _ _ (_ :: _) _ _ _; first | refine TL.sa ?_ | (refine TL.na ?_; intro _)) | (first | refine Stp.h ?_ | refine Post.then_normal ?_ | refine Post.next ?_ | refine Post.block_other rfl ?_) | (show TT _ _ _ _ _ _ _ _ _; refine TT.sa ?_) | exact TTs.nil | refine TTs.cons ?_ ?_ | (show T1 _ _ _ _ _ _ _ _ _ _; first | refine T1.sa ?_ | (refine T1.na ?_; intro _)) | (show TC _ _ _ _ _ _ _ _ _ _; first | refine TC.goa ?_ | refine TC.fina ?_) | refine Tri.ca ?_))
      refine TL.callv rfl rfl rfl rfl (cmpT_ok (r := D) (s := mkRat 1 2) fD fh6) ?_
      rintro _ _ ⟨rfl, rfl⟩
      (repeat' (first | (show TL _ _ _ _ (_ :: _) _ _ _; first | refine TL.sa ?_ | (refine TL.na ?_; intro _)) | (first | refine Stp.h ?_ | refine Post.then_normal ?_ | refine Post.next ?_ | refine Post.block_other rfl ?_) | (show TT _ _ _ _ _ _ _ _ _; refine TT.sa ?_) | exact TTs.nil | refine TTs.cons ?_ ?_ | (show T1 _ _ _ _ _ _ _ _ _ _; first | refine T1.sa ?_ | (refine T1.na ?_; intro _)) | (show TC _ _ _ _ _ _ _ _ _ _; first | refine TC.goa ?_ | refine TC.fina ?_) | refine Tri.ca ?_))
      refine TL.callv rfl rfl rfl rfl (negT_ok ht (r := mkRat 1 2) fh6) ?_
      rintro _ _ ⟨rfl, rfl⟩
      (repeat' (first | (show TL _ _ _ _ (_ :: _) _ _ _; first | refine TL.sa ?_ | (refine TL.na ?_; intro _)) | (first | refine Stp.h ?_ | refine Post.then_normal ?_ | refine Post.next ?_ | refine Post.block_other rfl ?_) | (show TT _ _ _ _ _ _ _ _ _; refine TT.sa ?_) | exact TTs.nil | refine TTs.cons ?_ ?_ | (show T1 _ _ _ _ _ _ _ _ _ _; first | refine T1.sa ?_ | (refine T1.na ?_; intro _)) | (show TC _ _ _ _ _ _ _ _ _ _; first | refine TC.goa ?_ | refine TC.fina ?_) | refine Tri.ca ?_))
      refine TL.callv rfl rfl rfl rfl (cmpT_ok (r := D) (s := -mkRat 1 2) fD fh6.neg) ?_
      rintro _ _ ⟨rfl, rfl⟩
      have w1 : ¬ 0 < ordQ D (mkRat 1 2) := fun h => n1 (ordQ_gt.1 h)
      have w2 : ¬ ordQ D (-mkRat 1 2) ≤ 0 := by have := ordQ_gt.2 n2; omega
      generalize ordQ D (mkRat 1 2) = U at w1 ⊢
      generalize ordQ D (-mkRat 1 2) = V at w2 ⊢
      (repeat' (first | (show TL _ _ _ _ (_ :: _) _ _ _; first | refine TL.sa ?_ | (refine TL.na ?_; intro _)) | (first | refine Stp.h ?_ | refine Post.then_normal ?_ | refine Post.next ?_ | refine Post.block_other rfl ?_) | (show TT _ _ _ _ _ _ _ _ _; refine TT.sa ?_) | exact TTs.nil | refine TTs.cons ?_ ?_ | (show T1 _ _ _ _ _ _ _ _ _ _; first | refine T1.sa ?_ | (refine T1.na ?_; intro _)) | (show TC _ _ _ _ _ _ _ _ _ _; first | refine TC.goa ?_ | refine TC.fina ?_) | refine Tri.ca ?_))
      exact Post.cut _ _ ⟨rfl, rfl⟩ (by (exact Sub.au)) (by (exact Ents.au))
    · (repeat' (first | (show TL _ _ _ _ (_ :: _) _ _ _; first | refine TL.sa ?_ | (refine TL.na ?_; intro _)) | (first | refine Stp.h ?_ | refine Post.then_normal ?_ | refine Post.next ?_ | refine Post.block_other rfl ?_) | (show TT _ _ _ _ _ _ _ _ _; refine TT.sa ?_) | exact TTs.nil | refine TTs.cons ?_ ?_ | (show T1 _ _ _ _ _ _ _ _ _ _; first | refine T1.sa ?_ | (refine T1.na ?_; intro _)) | (show TC _ _ _ _ _ _ _ _ _ _; first | refine TC.goa ?_ | refine TC.fina ?_) | refine Tri.ca ?_))
      exact Post.cut _ _ ⟨rfl, rfl⟩ (by (exact Sub.au)) (by (exact Ents.au))
  rintro _ _ ⟨rfl, rfl⟩
  clear hO hKn hK
  obtain ⟨M, hM⟩ : ∃ M, M = m % 21 := ⟨_, rfl⟩
  have hM20 : M ≤ 20 := by omega
  have eM : (m : Int) % 21 = (M : Int) := by omega
  have hz : Lib.nDigits (nearQ a (10 ^ M)).natAbs ≤ 61 := nDigits_lt (k := 61) (by decide) (Nat.lt_of_lt_of_le (near_digits ha) (Nat.pow_le_pow_right (by decide) (by omega)))
  have fB : Fit 100 (mkRat (nearQ a (10 ^ M)) (10 ^ M)) := fit_mk (by decide) (Nat.pos_iff_ne_zero.1 (Nat.pow_pos (by decide))) (Nat.lt_of_lt_of_le (near_digits ha) (Nat.pow_le_pow_right (by decide) (by omega))) (ten_lt (by omega))
  obtain ⟨t1, t2⟩ := text_bound a M
  have fT := fit_ten hM20
  (repeat' (first | (show TL _ _ _ _ (_ :: _) _ _ _; first | refine TL.sa ?_ | (refine TL.na ?_; intro _)) | (first | refine Stp.h ?_ | refine Post.then_normal ?_ | refine Post.next ?_ | refine Post.block_other rfl ?_) | refine Tri.ca ?_))
  rw [eM]
  refine TL.callv rfl rfl rfl rfl (textV_ok ht (r := a) (p := M) ha6 hM20) ?_
  rintro _ _ ⟨rfl, rfl⟩
  (repeat' (first | (show TL _ _ _ _ (_ :: _) _ _ _; first | refine TL.sa ?_ | (refine TL.na ?_; intro _)) | (first | refine Stp.h ?_ | refine Post.then_normal ?_ | refine Post.next ?_ | refine Post.block_other rfl ?_) | refine Tri.ca ?_))
  refine TL.callv rfl rfl rfl rfl (parseV_ok ht hm (z := nearQ a (10 ^ M)) (p := M) hM20 (by omega) (fB.mono (by decide))) ?_
  rintro _ _ ⟨rfl, rfl⟩
  have fS : Fit 141 (mkRat (nearQ a (10 ^ M)) (10 ^ M) - a) := fB.sub ha
  generalize hB : mkRat (nearQ a (10 ^ M)) (10 ^ M) = B at fB fS t1 t2 ⊢
  (repeat' (first | (show TL _ _ _ _ (_ :: _) _ _ _; first | refine TL.sa ?_ | (refine TL.na ?_; intro _)) | (first | refine Stp.h ?_ | refine Post.then_normal ?_ | refine Post.next ?_ | refine Post.block_other rfl ?_) | refine Tri.ca ?_))
  refine TL.callv rfl rfl rfl rfl (subT_ok ht (r := B) (s := a) (fB.mono (by decide)) ha6 (fS.mono (by decide))) ?_
  rintro _ _ ⟨rfl, rfl⟩
  have fX : Fit 600 ((B - a) * (10 : Rat) ^ M) := (fS.mul fT).mono (by decide)
  generalize B - a = C at fS t1 t2 fX ⊢
  (repeat' (first | (show TL _ _ _ _ (_ :: _) _ _ _; first | refine TL.sa ?_ | (refine TL.na ?_; intro _)) | (first | refine Stp.h ?_ | refine Post.then_normal ?_ | refine Post.next ?_ | refine Post.block_other rfl ?_) | refine Tri.ca ?_))
  refine TL.callv rfl rfl rfl rfl (qT_ok ht (n := 10) (d := 1) (r := 10) (by decide) (by decide) (by decide +kernel) (Fit.mono (k := 2) (Fit.of (by decide) (by decide) (by decide)) (by decide))) ?_
  rintro _ _ ⟨rfl, rfl⟩
  (repeat' (first | (show TL _ _ _ _ (_ :: _) _ _ _; first | refine TL.sa ?_ | (refine TL.na ?_; intro _)) | (first | refine Stp.h ?_ | refine Post.then_normal ?_ | refine Post.next ?_ | refine Post.block_other rfl ?_) | refine Tri.ca ?_))
  refine TL.callv rfl rfl rfl rfl (tenV_ok ht (p := M) hM20) ?_
  rintro _ _ ⟨rfl, rfl⟩
  generalize (10 : Rat) ^ M = T at fT t1 t2 fX ⊢
  (repeat' (first | (show TL _ _ _ _ (_ :: _) _ _ _; first | refine TL.sa ?_ | (refine TL.na ?_; intro _)) | (first | refine Stp.h ?_ | refine Post.then_normal ?_ | refine Post.next ?_ | refine Post.block_other rfl ?_) | refine Tri.ca ?_))
  refine TL.callv rfl rfl rfl rfl (mulT_ok ht (r := C) (s := T) (fS.mono (by decide)) (fT.mono (by decide)) fX) ?_
  rintro _ _ ⟨rfl, rfl⟩
  generalize C * T = X at t1 t2 fX ⊢
  (repeat' (first | (show TL _ _ _ _ (_ :: _) _ _ _; first | refine TL.sa ?_ | (refine TL.na ?_; intro _)) | (first | refine Stp.h ?_ | refine Post.then_normal ?_ | refine Post.next ?_ | refine Post.block_other rfl ?_) | refine Tri.ca ?_))
  refine TL.callv rfl rfl rfl rfl (cmpT_ok (r := X) (s := mkRat 1 2) fX fh6) ?_
  rintro _ _ ⟨rfl, rfl⟩
  have w1 : ordQ X (mkRat 1 2) ≤ 0 := by have := mt ordQ_gt.1 t1; omega
  have w2 : 0 < ordQ X (-mkRat 1 2) := ordQ_gt.2 t2
  generalize ordQ X (mkRat 1 2) = U at w1 ⊢
  (repeat' (first | (show TL _ _ _ _ (_ :: _) _ _ _; first | refine TL.sa ?_ | (refine TL.na ?_; intro _)) | (first | refine Stp.h ?_ | refine Post.then_normal ?_ | refine Post.next ?_ | refine Post.block_other rfl ?_) | refine Tri.ca ?_))
  rename_i b34 b35 b36
  refine Tri.dw [.cl b35 [.string ⟨(tN X).toArray⟩, .string ⟨(tD X).toArray⟩] 24] [] (.take 0 (.all [(1, .all [(2, .take 3 (.take 4 (.take 5 (.take 6 (.take 7 (.done))))))])])) ?_
  (repeat' (first | (show TL _ _ _ _ (_ :: _) _ _ _; first | refine TL.sa ?_ | (refine TL.na ?_; intro _)) | (first | refine Stp.h ?_ | refine Post.then_normal ?_ | refine Post.next ?_ | refine Post.block_other rfl ?_) | (show TT _ _ _ _ _ _ _ _ _; refine TT.sa ?_) | exact TTs.nil | refine TTs.cons ?_ ?_ | (show T1 _ _ _ _ _ _ _ _ _ _; first | refine T1.sa ?_ | (refine T1.na ?_; intro _)) | (show TC _ _ _ _ _ _ _ _ _ _; first | refine TC.goa ?_ | refine TC.fina ?_) | refine Tri.ca ?_))
  iterate 2
    all_goals
      first
        | (refine T1.callv rfl rfl rfl rfl rfl (qT_ok ht (n := -1) (d := 2) (r := -mkRat 1 2) (by decide) (by decide) (by decide +kernel) fh6.neg) ?_
           rintro _ _ ⟨rfl, rfl⟩)
        | (refine T1.callv rfl rfl rfl rfl rfl (cmpT_ok (r := X) (s := -mkRat 1 2) fX fh6.neg) ?_
           rintro _ _ ⟨rfl, rfl⟩
           generalize ordQ X (-mkRat 1 2) = V at w2 ⊢)
      (repeat' (first | (show TL _ _ _ _ (_ :: _) _ _ _; first | refine TL.sa ?_ | (refine TL.na ?_; intro _)) | (first | refine Stp.h ?_ | refine Post.then_normal ?_ | refine Post.next ?_ | refine Post.block_other rfl ?_) | (show TT _ _ _ _ _ _ _ _ _; refine TT.sa ?_) | exact TTs.nil | refine TTs.cons ?_ ?_ | (show T1 _ _ _ _ _ _ _ _ _ _; first | refine T1.sa ?_ | (refine T1.na ?_; intro _)) | (show TC _ _ _ _ _ _ _ _ _ _; first | refine TC.goa ?_ | refine TC.fina ?_) | refine Tri.ca ?_))
  all_goals
    (refine Post.ra ?_)
    exact ⟨[], by rw [decide_eq_true w2], Ents.of_cov inferInstance⟩
end Go.Proofs.YtldljckhfcoafaaGreatDoor.Q
