/- Walks: the law of powers. -/
import Derived.Test.YtldljckhfcoafaaGreatDoorLf7
namespace Go.Proofs.YtldljckhfcoafaaGreatDoor.Q
open Go Go.Sx
variable {w0 : World} {As : List Ent}
instance (priority := low) {p : List UInt8 × List UInt8} : EncL cF p [.string ⟨p.1.toArray⟩, .string ⟨p.2.toArray⟩] := ⟨rfl⟩
instance : ElC Tryz.prog 24 (List UInt8 × List UInt8) cF ([], []) 32 := ⟨by obtain ⟨i, h1, h2, h3, h4⟩ := (inferInstance : TI Tryz.prog 24 _ _ _).info; exact ⟨i, _, h1, h2, h3, h4, rfl⟩, by decide⟩
set_option maxRecDepth 100000 in
set_option maxHeartbeats 8000000 in
theorem fracPowers_ok (ht : Tab w0) (he : ErrR w0) (hm : LenR w0) (x y : D02) {n m : Nat} (hn8 : n ≤ 255) (hm8 : m ≤ 255) (kx : x.ok) (ky : y.ok)
    [r1 : RdIn As x.n.gv Nat (cN .u16) x.n.gs] [r2 : RdIn As x.d.gv Nat (cN .u16) x.d.gs] [r3 : RdIn As y.n.gv Nat (cN .u16) y.n.gs] [r4 : RdIn As y.d.gv Nat (cN .u16) y.d.gs] :
    CallsS Tryz.prog w0 7 [.agg x.cells.toArray, .agg y.cells.toArray, .int .u8 (n : Int), .int .u8 (m : Int)] As fun u _ => u = .bool true := by
  obtain ⟨⟨hx1, gx, lx, zx⟩, ⟨hx1', gx', lx', zx'⟩⟩ := x
  obtain ⟨⟨hy1, gy, ly, zy⟩, ⟨hy1', gy', ly', zy'⟩⟩ := y
  replace r1 : RdIn As gx Nat (cN .u16) lx := r1
  replace r2 : RdIn As gx' Nat (cN .u16) lx' := r2
  replace r3 : RdIn As gy Nat (cN .u16) ly := r3
  replace r4 : RdIn As gy' Nat (cN .u16) ly' := r4
  refine CallsS.rdSl gx fun p0 c0 e0 => ?_
  refine CallsS.rdSl gx' fun p1 c1 e1 => ?_
  refine CallsS.rdSl gy fun p2 c2 e2 => ?_
  refine CallsS.rdSl gy' fun p3 c3 e3 => ?_
  subst e0 e1 e2 e3
  have sx : ∀ {Bs : List Ent} [i1 : RdIn Bs (.slice p0 lx.length c0) Nat (cN .u16) lx] [i2 : RdIn Bs (.slice p1 lx'.length c1) Nat (cN .u16) lx'], CallsS Tryz.prog w0 11 [.agg #[.bool hx1, .slice p0 lx.length c0, .int .u16 (zx : Int), .bool hx1', .slice p1 lx'.length c1, .int .u16 (zx' : Int)]] Bs (FracS 3 Bs) :=
    fun {Bs} i1 i2 => @shortF_ok w0 Bs ⟨⟨hx1, .slice p0 lx.length c0, lx, zx⟩, ⟨hx1', .slice p1 lx'.length c1, lx', zx'⟩⟩ i1 i2 kx
  have sy : ∀ {Bs : List Ent} [i1 : RdIn Bs (.slice p2 ly.length c2) Nat (cN .u16) ly] [i2 : RdIn Bs (.slice p3 ly'.length c3) Nat (cN .u16) ly'], CallsS Tryz.prog w0 11 [.agg #[.bool hy1, .slice p2 ly.length c2, .int .u16 (zy : Int), .bool hy1', .slice p3 ly'.length c3, .int .u16 (zy' : Int)]] Bs (FracS 3 Bs) :=
    fun {Bs} i1 i2 => @shortF_ok w0 Bs ⟨⟨hy1, .slice p2 ly.length c2, ly, zy⟩, ⟨hy1', .slice p3 ly'.length c3, ly', zy'⟩⟩ i1 i2 ky
  clear kx ky
  refine CallsS.of_tri Tryz.func7 rfl Tryz.ntmps7 rfl ?_
  show Tri _ _ _ _ (env0 0 [.agg #[.bool hx1, .slice p0 lx.length c0, .int .u16 (zx : Int), .bool hx1', .slice p1 lx'.length c1, .int .u16 (zx' : Int)], .agg #[.bool hy1, .slice p2 ly.length c2, .int .u16 (zy : Int), .bool hy1', .slice p3 ly'.length c3, .int .u16 (zy' : Int)], .int .u8 (n : Int), .int .u8 (m : Int)]) _ _
  (repeat' (first | (show TL _ _ _ _ (_ :: _) _ _ _; first | refine TL.sa ?_ | (refine TL.na ?_; intro _)) | (first | refine Stp.h ?_ | refine Post.then_normal ?_ | refine Post.next ?_ | refine Post.block_other rfl ?_) | refine Tri.ca ?_))
  rename_i b4 b5
  refine TL.call rfl rfl rfl (works02_ok ht he hm) ?_
  rintro _ _ ⟨rfl, rfl⟩
  (repeat' (first | (show TL _ _ _ _ (_ :: _) _ _ _; first | refine TL.sa ?_ | (refine TL.na ?_; intro _)) | (first | refine Stp.h ?_ | refine Post.then_normal ?_ | refine Post.next ?_ | refine Post.block_other rfl ?_) | refine Tri.ca ?_))
  refine Tri.mid (fun e' As' => ∃ (a b : Rat) (b9 b10 : Nat), Fit 3 a ∧ Fit 3 b ∧ e' = [(2, .int .u8 (n : Int)), (3, .int .u8 (m : Int)), (9, .pointer (some ⟨b9, 0, none⟩)), (10, .pointer (some ⟨b10, 0, none⟩))] ∧ As' = .cl b9 [.string ⟨(tN a).toArray⟩, .string ⟨(tD a).toArray⟩] 24 :: .cl b10 [.string ⟨(tN b).toArray⟩, .string ⟨(tD b).toArray⟩] 24 :: As) ?_ ?_
  · refine Tri.dw [.cl b5 [.bool hy1, .slice p2 ly.length c2, .int .u16 (zy : Int), .bool hy1', .slice p3 ly'.length c3, .int .u16 (zy' : Int)] 30, .cl b4 [.bool hx1, .slice p0 lx.length c0, .int .u16 (zx : Int), .bool hx1', .slice p1 lx'.length c1, .int .u16 (zx' : Int)] 30] [] (.take 0 (.take 2 (.all [(1, .all [(3, .all [(4, .all [(5, .all [(6, .all [(7, .done)])])]), (5, .all [(4, .all [(6, .all [(7, .done)])])])]), (4, .all [(3, .all [(5, .all [(6, .all [(7, .done)])])]), (5, .all [(3, .all [(6, .all [(7, .done)])])])]), (5, .all [(3, .all [(4, .all [(6, .all [(7, .done)])])]), (4, .all [(3, .all [(6, .all [(7, .done)])])])])]), (4, .all [(1, .all [(3, .all [(5, .all [(6, .all [(7, .done)])])]), (5, .all [(3, .all [(6, .all [(7, .done)])])])]), (5, .all [(1, .all [(3, .all [(6, .all [(7, .done)])])])])]), (5, .all [(1, .all [(3, .all [(4, .all [(6, .all [(7, .done)])])]), (4, .all [(3, .all [(6, .all [(7, .done)])])])]), (4, .all [(1, .all [(3, .all [(6, .all [(7, .done)])])])])])]))) ?_
    (repeat' (first | (show TL _ _ _ _ (_ :: _) _ _ _; first | refine TL.sa ?_ | (refine TL.na ?_; intro _)) | (first | refine Stp.h ?_ | refine Post.then_normal ?_ | refine Post.next ?_ | refine Post.block_other rfl ?_) | (show TT _ _ _ _ _ _ _ _ _; refine TT.sa ?_) | exact TTs.nil | refine TTs.cons ?_ ?_ | (show T1 _ _ _ _ _ _ _ _ _ _; first | refine T1.sa ?_ | (refine T1.na ?_; intro _)) | (show TC _ _ _ _ _ _ _ _ _ _; first | refine TC.goa ?_ | refine TC.fina ?_) | refine Tri.ca ?_))
    iterate 2
      all_goals
        first
          | (refine T1.callv rfl rfl rfl rfl rfl sx ?_
             rintro _ _ ⟨a, ha, rfl, rfl⟩)
          | (refine T1.callv rfl rfl rfl rfl rfl sy ?_
             rintro _ _ ⟨b, hb, rfl, rfl⟩)
        (repeat' (first | (show TL _ _ _ _ (_ :: _) _ _ _; first | refine TL.sa ?_ | (refine TL.na ?_; intro _)) | (first | refine Stp.h ?_ | refine Post.then_normal ?_ | refine Post.next ?_ | refine Post.block_other rfl ?_) | (show TT _ _ _ _ _ _ _ _ _; refine TT.sa ?_) | exact TTs.nil | refine TTs.cons ?_ ?_ | (show T1 _ _ _ _ _ _ _ _ _ _; first | refine T1.sa ?_ | (refine T1.na ?_; intro _)) | (show TC _ _ _ _ _ _ _ _ _ _; first | refine TC.goa ?_ | refine TC.fina ?_) | refine Tri.ca ?_))
    all_goals exact Post.cut _ _ ⟨a, b, _, _, ha, hb, rfl, rfl⟩ (by (exact Sub.au)) (by (exact Ents.au))
  rintro _ _ ⟨a, b, b9, b10, ha, hb, rfl, rfl⟩
  clear sx sy
  have ha6 : Fit 600 a := ha.mono (by decide)
  have hb6 : Fit 600 b := hb.mono (by decide)
  have hp6 : Fit 600 (a * b) := (ha.mul hb).mono (by decide)
  obtain ⟨N, hN⟩ : ∃ N, N = n % 41 := ⟨_, rfl⟩
  obtain ⟨M, hM⟩ : ∃ M, M = m % 30 := ⟨_, rfl⟩
  have hN40 : N ≤ 40 := by omega
  have hM29 : M ≤ 29 := by omega
  have eN : (n : Int) % 41 = (N : Int) := by omega
  have eM : (m : Int) % 30 = (M : Int) := by omega
  have fP : Fit 600 ((a * b) ^ N) := ((ha.mul hb).pow N).mono (by omega)
  have fA : Fit 600 (a ^ N) := (ha.pow N).mono (by omega)
  have fB : Fit 600 (b ^ N) := (hb.pow N).mono (by omega)
  have hAB : a ^ N * b ^ N = (a * b) ^ N := (rat_mul_pow a b N).symm
  have fM : Fit 2 (M : Rat) := Fit.of (by decide) (by rw [Rat.num_natCast, Int.natAbs_natCast]; omega) (by rw [Rat.den_natCast]; decide)
  have fS : Fit 600 (a * (M : Rat)) := (ha.mul fM).mono (by decide)
  (repeat' (first | (show TL _ _ _ _ (_ :: _) _ _ _; first | refine TL.sa ?_ | (refine TL.na ?_; intro _)) | (first | refine Stp.h ?_ | refine Post.then_normal ?_ | refine Post.next ?_ | refine Post.block_other rfl ?_) | (show TT _ _ _ _ _ _ _ _ _; refine TT.sa ?_) | exact TTs.nil | refine TTs.cons ?_ ?_ | (show T1 _ _ _ _ _ _ _ _ _ _; first | refine T1.sa ?_ | (refine T1.na ?_; intro _)) | (show TC _ _ _ _ _ _ _ _ _ _; first | refine TC.goa ?_ | refine TC.fina ?_) | refine Tri.ca ?_))
  rw [eN, eM]
  refine TL.callv rfl rfl rfl rfl (mulT_ok ht (r := a) (s := b) ha6 hb6 hp6) ?_
  rintro _ _ ⟨rfl, rfl⟩
  (repeat' (first | (show TL _ _ _ _ (_ :: _) _ _ _; first | refine TL.sa ?_ | (refine TL.na ?_; intro _)) | (first | refine Stp.h ?_ | refine Post.then_normal ?_ | refine Post.next ?_ | refine Post.block_other rfl ?_) | refine Tri.ca ?_))
  refine TL.callv rfl rfl rfl rfl (powT_ok ht (r := a * b) (n := N) hp6 hN40 fP) ?_
  rintro _ _ ⟨rfl, rfl⟩
  (repeat' (first | (show TL _ _ _ _ (_ :: _) _ _ _; first | refine TL.sa ?_ | (refine TL.na ?_; intro _)) | (first | refine Stp.h ?_ | refine Post.then_normal ?_ | refine Post.next ?_ | refine Post.block_other rfl ?_) | refine Tri.ca ?_))
  refine TL.callv rfl rfl rfl rfl (powT_ok ht (r := a) (n := N) ha6 hN40 fA) ?_
  rintro _ _ ⟨rfl, rfl⟩
  (repeat' (first | (show TL _ _ _ _ (_ :: _) _ _ _; first | refine TL.sa ?_ | (refine TL.na ?_; intro _)) | (first | refine Stp.h ?_ | refine Post.then_normal ?_ | refine Post.next ?_ | refine Post.block_other rfl ?_) | refine Tri.ca ?_))
  refine TL.callv rfl rfl rfl rfl (powT_ok ht (r := b) (n := N) hb6 hN40 fB) ?_
  rintro _ _ ⟨rfl, rfl⟩
  (repeat' (first | (show TL _ _ _ _ (_ :: _) _ _ _; first | refine TL.sa ?_ | (refine TL.na ?_; intro _)) | (first | refine Stp.h ?_ | refine Post.then_normal ?_ | refine Post.next ?_ | refine Post.block_other rfl ?_) | refine Tri.ca ?_))
  refine TL.callv rfl rfl rfl rfl (mulT_ok ht (r := a ^ N) (s := b ^ N) fA fB (by rw [hAB]; exact fP)) ?_
  rw [hAB]
  rintro _ _ ⟨rfl, rfl⟩
  generalize (a * b) ^ N = Q at fP ⊢
  clear hN hM eN eM fA fB hAB
  (repeat' (first | (show TL _ _ _ _ (_ :: _) _ _ _; first | refine TL.sa ?_ | (refine TL.na ?_; intro _)) | (first | refine Stp.h ?_ | refine Post.then_normal ?_ | refine Post.next ?_ | refine Post.block_other rfl ?_) | refine Tri.ca ?_))
  rename_i b13 b16 b18 b20 vt
  rw [show ((List.replicate M (([], []) : List UInt8 × List UInt8)).length : Int) = (M : Int) from by rw [List.length_replicate]]
  refine Tri.midB (fun e' As' => e' = [(9, .pointer (some ⟨b9, 0, none⟩)), (12, .int .i64 (M : Int)), (13, .pointer (some ⟨b13, 0, none⟩)), (14, .int .i64 0), (15, .int .i64 0), (17, .int .i64 0), (19, .int .i64 0), (20, .pointer (some ⟨b20, 0, none⟩)), (21, .int .i64 0), (22, vt)] ∧ As' = .ow cF 24 vt (List.replicate M (tN a, tD a)) :: .cl b20 [.string ⟨(tN Q).toArray⟩, .string ⟨(tD Q).toArray⟩] 24 :: .cl b13 [.string ⟨(tN Q).toArray⟩, .string ⟨(tD Q).toArray⟩] 24 :: .cl b9 [.string ⟨(tN a).toArray⟩, .string ⟨(tD a).toArray⟩] 24 :: As) ?_ ?_
  · refine Tri.loop (ι := Nat) (fun i => i ≤ M) (fun i => M - i) (fun i => [(9, .pointer (some ⟨b9, 0, none⟩)), (12, .int .i64 (M : Int)), (13, .pointer (some ⟨b13, 0, none⟩)), (14, .int .i64 0), (15, .int .i64 0), (17, .int .i64 0), (19, .int .i64 0), (20, .pointer (some ⟨b20, 0, none⟩)), (21, .int .i64 0), (22, vt), (72, vt), (73, .int .i64 (M : Int)), (74, .int .i64 (i : Int))])
      (fun i => .ow cF 24 vt (List.replicate i (tN a, tD a) ++ List.replicate (M - i) (([], []) : List UInt8 × List UInt8)) :: .cl b20 [.string ⟨(tN Q).toArray⟩, .string ⟨(tD Q).toArray⟩] 24 :: .cl b13 [.string ⟨(tN Q).toArray⟩, .string ⟨(tD Q).toArray⟩] 24 :: .cl b9 [.string ⟨(tN a).toArray⟩, .string ⟨(tD a).toArray⟩] 24 :: As) 0 (Nat.zero_le _) (by (exact Sub.au))
      (by show Ents _ (.ow cF 24 vt ([] ++ List.replicate (M - 0) (([], []) : List UInt8 × List UInt8)) :: .cl b20 [.string ⟨(tN Q).toArray⟩, .string ⟨(tD Q).toArray⟩] 24 :: .cl b13 [.string ⟨(tN Q).toArray⟩, .string ⟨(tD Q).toArray⟩] 24 :: .cl b9 [.string ⟨(tN a).toArray⟩, .string ⟨(tD a).toArray⟩] 24 :: As); rw [List.nil_append, Nat.sub_zero]; (exact Ents.au)) ?_
    intro i hi
    simp only
    by_cases hlt : (i : Int) < M
    · have hset : ∀ r : List UInt8 × List UInt8, (List.replicate i (tN a, tD a) ++ List.replicate (M - i) (([], []) : List UInt8 × List UInt8)).set i r = (List.replicate i (tN a, tD a) ++ [r]) ++ List.replicate (M - (i + 1)) (([], []) : List UInt8 × List UInt8) := fun r => by
        have h := fill_set (A := List.replicate i (tN a, tD a)) (z := (([], []) : List UInt8 × List UInt8)) (r := r) (n := M) (by rw [List.length_replicate]; omega)
        rwa [List.length_replicate] at h
      have hXl : (List.replicate i (tN a, tD a) ++ List.replicate (M - i) (([], []) : List UInt8 × List UInt8)).length = M := by rw [List.length_append, List.length_replicate, List.length_replicate]; omega
      generalize List.replicate i (tN a, tD a) ++ List.replicate (M - i) (([], []) : List UInt8 × List UInt8) = X at hset hXl ⊢
      obtain ⟨y0, hy0⟩ : ∃ y0, X[i]? = some y0 := ⟨_, List.getElem?_eq_getElem (by omega)⟩
      have hone : oneB [Value.string ⟨(tN a).toArray⟩, .string ⟨(tD a).toArray⟩] = true := by rfl
      (repeat' (first | (show TL _ _ _ _ (_ :: _) _ _ _; first | refine TL.sa ?_ | (refine TL.na ?_; intro _)) | (first | refine Stp.h ?_ | refine Post.then_normal ?_ | refine Post.next ?_ | refine Post.block_other rfl ?_) | refine Tri.ca ?_))
      refine TL.u rfl (ExU.storeEA rfl rfl (by rfl) hone (by rfl) hy0 (by rfl) (by simp only [setAll, List.take_succ_cons, List.take_zero, List.drop_succ_cons, List.drop_zero, List.drop_nil, List.length_cons, List.length_nil, List.cons_append, List.nil_append, List.append_nil, Nat.mul_one, Nat.zero_add, Nat.add_zero, Nat.reduceAdd, Nat.reduceMul]; exact rfl)) ?_
      (repeat' (first | (show TL _ _ _ _ (_ :: _) _ _ _; first | refine TL.sa ?_ | (refine TL.na ?_; intro _)) | (first | refine Stp.h ?_ | refine Post.then_normal ?_ | refine Post.next ?_ | refine Post.block_other rfl ?_) | refine Tri.ca ?_))
      rw [hset, ← List.replicate_succ']
      exact Post.round (i + 1) (by omega) (by omega) (by (exact Sub.au)) (by (exact Ents.au))
    · have him : i = M := by omega
      rw [him, Nat.sub_self, List.replicate_zero, List.append_nil]
      (repeat' (first | (show TL _ _ _ _ (_ :: _) _ _ _; first | refine TL.sa ?_ | (refine TL.na ?_; intro _)) | (first | refine Stp.h ?_ | refine Post.then_normal ?_ | refine Post.next ?_ | refine Post.block_other rfl ?_) | refine Tri.ca ?_))
      exact Post.cut _ _ ⟨rfl, rfl⟩ (by (exact Sub.au)) (by (exact Ents.au))
  rintro _ _ ⟨rfl, rfl⟩
  have q1 : tN Q = tN Q ∧ tD Q = tD Q := ⟨rfl, rfl⟩
  have q2 : tN (a * (M : Rat)) = tN (a * (M : Rat)) ∧ tD (a * (M : Rat)) = tD (a * (M : Rat)) := ⟨rfl, rfl⟩
  (repeat' (first | (show TL _ _ _ _ (_ :: _) _ _ _; first | refine TL.sa ?_ | (refine TL.na ?_; intro _)) | (first | refine Stp.h ?_ | refine Post.then_normal ?_ | refine Post.next ?_ | refine Post.block_other rfl ?_) | refine Tri.ca ?_))
  refine TL.callv rfl rfl rfl rfl (sumT_ok ht (v := vt) (a := a) (m := M) ha6 (by omega) fS) ?_
  rintro _ _ ⟨rfl, rfl⟩
  (repeat' (first | (show TL _ _ _ _ (_ :: _) _ _ _; first | refine TL.sa ?_ | (refine TL.na ?_; intro _)) | (first | refine Stp.h ?_ | refine Post.then_normal ?_ | refine Post.next ?_ | refine Post.block_other rfl ?_) | refine Tri.ca ?_))
  refine Tri.dw [.cl b9 [.string ⟨(tN a).toArray⟩, .string ⟨(tD a).toArray⟩] 24] [] (.take 0 (.take 1 (.all [(2, .all [(3, .take 4 (.take 5 (.take 6 (.all [(7, .all [(8, .take 9 (.done))])])))), (7, .all [(3, .take 4 (.take 5 (.take 6 (.all [(8, .take 9 (.done))]))))])]), (7, .all [(2, .all [(3, .take 4 (.take 5 (.take 6 (.all [(8, .take 9 (.done))]))))])])]))) ?_
  (repeat' (first | (show TL _ _ _ _ (_ :: _) _ _ _; first | refine TL.sa ?_ | (refine TL.na ?_; intro _)) | (first | refine Stp.h ?_ | refine Post.then_normal ?_ | refine Post.next ?_ | refine Post.block_other rfl ?_) | (show TT _ _ _ _ _ _ _ _ _; refine TT.sa ?_) | exact TTs.nil | refine TTs.cons ?_ ?_ | (show T1 _ _ _ _ _ _ _ _ _ _; first | refine T1.sa ?_ | (refine T1.na ?_; intro _)) | (show TC _ _ _ _ _ _ _ _ _ _; first | refine TC.goa ?_ | refine TC.fina ?_) | refine Tri.ca ?_))
  iterate 2
    all_goals
      first
        | (refine T1.callv rfl rfl rfl rfl rfl (qT_ok ht (n := (M : Int)) (d := 1) (r := (M : Rat)) (by omega) (by decide) (rat_nat M) (fM.mono (by decide))) ?_
           rintro _ _ ⟨rfl, rfl⟩)
        | (refine T1.callv rfl rfl rfl rfl rfl (mulT_ok ht (r := a) (s := (M : Rat)) ha6 (fM.mono (by decide)) fS) ?_
           rintro _ _ ⟨rfl, rfl⟩)
      (repeat' (first | (show TL _ _ _ _ (_ :: _) _ _ _; first | refine TL.sa ?_ | (refine TL.na ?_; intro _)) | (first | refine Stp.h ?_ | refine Post.then_normal ?_ | refine Post.next ?_ | refine Post.block_other rfl ?_) | (show TT _ _ _ _ _ _ _ _ _; refine TT.sa ?_) | exact TTs.nil | refine TTs.cons ?_ ?_ | (show T1 _ _ _ _ _ _ _ _ _ _; first | refine T1.sa ?_ | (refine T1.na ?_; intro _)) | (show TC _ _ _ _ _ _ _ _ _ _; first | refine TC.goa ?_ | refine TC.fina ?_) | refine Tri.ca ?_))
  all_goals
    refine TL.f rfl rfl (ExF.eqlFr rfl rfl) ?_
    (repeat' (first | (show TL _ _ _ _ (_ :: _) _ _ _; first | refine TL.sa ?_ | (refine TL.na ?_; intro _)) | (first | refine Stp.h ?_ | refine Post.then_normal ?_ | refine Post.next ?_ | refine Post.block_other rfl ?_) | (show TT _ _ _ _ _ _ _ _ _; refine TT.sa ?_) | exact TTs.nil | refine TTs.cons ?_ ?_ | (show T1 _ _ _ _ _ _ _ _ _ _; first | refine T1.sa ?_ | (refine T1.na ?_; intro _)) | (show TC _ _ _ _ _ _ _ _ _ _; first | refine TC.goa ?_ | refine TC.fina ?_) | refine Tri.ca ?_))
    refine TL.f rfl rfl (ExF.eqlFr rfl rfl) ?_
    (repeat' (first | (show TL _ _ _ _ (_ :: _) _ _ _; first | refine TL.sa ?_ | (refine TL.na ?_; intro _)) | (first | refine Stp.h ?_ | refine Post.then_normal ?_ | refine Post.next ?_ | refine Post.block_other rfl ?_) | (show TT _ _ _ _ _ _ _ _ _; refine TT.sa ?_) | exact TTs.nil | refine TTs.cons ?_ ?_ | (show T1 _ _ _ _ _ _ _ _ _ _; first | refine T1.sa ?_ | (refine T1.na ?_; intro _)) | (show TC _ _ _ _ _ _ _ _ _ _; first | refine TC.goa ?_ | refine TC.fina ?_) | refine Tri.ca ?_))
    (refine Post.ra ?_)
    exact ⟨[], by rw [decide_eq_true q2], Ents.of_cov inferInstance⟩
end Go.Proofs.YtldljckhfcoafaaGreatDoor.Q
