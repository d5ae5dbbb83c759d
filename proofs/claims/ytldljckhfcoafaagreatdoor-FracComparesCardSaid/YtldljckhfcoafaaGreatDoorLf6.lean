/- Walks: the law of comparisons. -/
import Derived.Test.YtldljckhfcoafaaGreatDoorLf5
namespace Go.Proofs.YtldljckhfcoafaaGreatDoor.Q
open Go Go.Sx
theorem ordQ_three (a b : Rat) : (a < b → ordQ a b = -1) ∧ (a = b → ordQ a b = 0) ∧ (b < a → ordQ a b = 1) := by
  obtain ⟨t1, t2, t3⟩ := signI_three (a.num * (b.den : Int) - b.num * (a.den : Int))
  have e : ordQ a b = signI (a.num * (b.den : Int) - b.num * (a.den : Int)) := rfl
  have h1 := @ordQ_lt a b
  have h2 := @ordQ_gt a b
  have h3 := @ordQ_eq a b
  rw [← e] at t1 t2 t3
  generalize ordQ a b = o at *
  generalize a.num * (b.den : Int) - b.num * (a.den : Int) = y at *
  refine ⟨fun h => ?_, fun h => ?_, fun h => ?_⟩
  · have := h1.2 h
    rcases Int.lt_trichotomy y 0 with hy | hy | hy
    · exact t1 hy
    · have := t2 hy; omega
    · have := t3 hy; omega
  · exact h3.2 h
  · have := h2.2 h
    rcases Int.lt_trichotomy y 0 with hy | hy | hy
    · have := t1 hy; omega
    · have := t2 hy; omega
    · exact t3 hy
theorem clamp_in (a : Rat) : ¬ ordQ (minQ (maxQ a 0) 1) 0 < 0 ∧ ¬ 0 < ordQ (minQ (maxQ a 0) 1) 1 := by
  have h1 := @ordQ_lt (minQ (maxQ a 0) 1) 0
  have h2 := @ordQ_gt (minQ (maxQ a 0) 1) 1
  constructor
  · rw [h1]
    unfold minQ
    split
    · decide
    · unfold maxQ
      split
      · decide
      · rename_i h; exact h
  · rw [h2]
    unfold minQ
    split
    · decide
    · rename_i h; exact h
variable {w0 : World} {As : List Ent}
set_option maxRecDepth 100000 in
set_option maxHeartbeats 8000000 in
theorem fracCompares_ok (ht : Tab w0) (he : ErrR w0) (hm : LenR w0) (x y : D02) (kx : x.ok) (ky : y.ok)
    [r1 : RdIn As x.n.gv Nat (cN .u16) x.n.gs] [r2 : RdIn As x.d.gv Nat (cN .u16) x.d.gs] [r3 : RdIn As y.n.gv Nat (cN .u16) y.n.gs] [r4 : RdIn As y.d.gv Nat (cN .u16) y.d.gs] :
    CallsS Tryz.prog w0 9 [.agg x.cells.toArray, .agg y.cells.toArray] As fun u _ => u = .bool true := by
  obtain ⟨⟨hx1, gx, lx, zx⟩, ⟨hx1', gx', lx', zx'⟩⟩ := x
  obtain ⟨⟨hy1, gy, ly, zy⟩, ⟨hy1', gy', ly', zy'⟩⟩ := y
  replace r1 : RdIn As gx Nat (cN .u16) lx := r1
  replace r2 : RdIn As gx' Nat (cN .u16) lx' := r2
  replace r3 : RdIn As gy Nat (cN .u16) ly := r3
  replace r4 : RdIn As gy' Nat (cN .u16) ly' := r4
  refine CallsS.rdSl gx fun p0 c0 e0 => ?_
  refine CallsS.rdSl gx' fun p1 c1 e1 => ?_
  refine CallsS.rdSl gy fun p2 c2 e2 => ?_
  refine CallsS.rdSl gy' fun p3 c3 e3 => ?_
  subst e0 e1 e2 e3
  have fx : ∀ {Bs : List Ent} [i1 : RdIn Bs (.slice p0 lx.length c0) Nat (cN .u16) lx] [i2 : RdIn Bs (.slice p1 lx'.length c1) Nat (cN .u16) lx'], CallsS Tryz.prog w0 19 [.agg #[.bool hx1, .slice p0 lx.length c0, .int .u16 (zx : Int), .bool hx1', .slice p1 lx'.length c1, .int .u16 (zx' : Int)]] Bs (FracS 40 Bs) :=
    fun {Bs} i1 i2 => @draftF_ok w0 Bs ⟨⟨hx1, .slice p0 lx.length c0, lx, zx⟩, ⟨hx1', .slice p1 lx'.length c1, lx', zx'⟩⟩ i1 i2 kx
  have fy : ∀ {Bs : List Ent} [i1 : RdIn Bs (.slice p2 ly.length c2) Nat (cN .u16) ly] [i2 : RdIn Bs (.slice p3 ly'.length c3) Nat (cN .u16) ly'], CallsS Tryz.prog w0 19 [.agg #[.bool hy1, .slice p2 ly.length c2, .int .u16 (zy : Int), .bool hy1', .slice p3 ly'.length c3, .int .u16 (zy' : Int)]] Bs (FracS 40 Bs) :=
    fun {Bs} i1 i2 => @draftF_ok w0 Bs ⟨⟨hy1, .slice p2 ly.length c2, ly, zy⟩, ⟨hy1', .slice p3 ly'.length c3, ly', zy'⟩⟩ i1 i2 ky
  clear kx ky
  refine CallsS.of_tri Tryz.func9 rfl Tryz.ntmps9 rfl ?_
  show Tri _ _ _ _ (env0 0 [.agg #[.bool hx1, .slice p0 lx.length c0, .int .u16 (zx : Int), .bool hx1', .slice p1 lx'.length c1, .int .u16 (zx' : Int)], .agg #[.bool hy1, .slice p2 ly.length c2, .int .u16 (zy : Int), .bool hy1', .slice p3 ly'.length c3, .int .u16 (zy' : Int)]]) _ _
  (repeat' (first | (show TL _ _ _ _ (_ :: _) _ _ _; first | refine TL.sa ?_ | (refine TL.na ?_; intro _)) | (first | refine Stp.h ?_ | refine Post.then_normal ?_ | refine Post.next ?_ | refine Post.block_other rfl ?_) | refine Tri.ca ?_))
  rename_i b2 b3
  refine TL.call rfl rfl rfl (works02_ok ht he hm) ?_
  rintro _ _ ⟨rfl, rfl⟩
  (repeat' (first | (show TL _ _ _ _ (_ :: _) _ _ _; first | refine TL.sa ?_ | (refine TL.na ?_; intro _)) | (first | refine Stp.h ?_ | refine Post.then_normal ?_ | refine Post.next ?_ | refine Post.block_other rfl ?_) | refine Tri.ca ?_))
  refine Tri.mid (fun e' As' => ∃ (a b : Rat) (b5 b6 : Nat), Fit 40 a ∧ Fit 40 b ∧ e' = [(5, .pointer (some ⟨b5, 0, none⟩)), (6, .pointer (some ⟨b6, 0, none⟩))] ∧ As' = .cl b5 [.string ⟨(tN a).toArray⟩, .string ⟨(tD a).toArray⟩] 24 :: .cl b6 [.string ⟨(tN b).toArray⟩, .string ⟨(tD b).toArray⟩] 24 :: As) ?_ ?_
  · refine Tri.dw [.cl b3 [.bool hy1, .slice p2 ly.length c2, .int .u16 (zy : Int), .bool hy1', .slice p3 ly'.length c3, .int .u16 (zy' : Int)] 30, .cl b2 [.bool hx1, .slice p0 lx.length c0, .int .u16 (zx : Int), .bool hx1', .slice p1 lx'.length c1, .int .u16 (zx' : Int)] 30] [] (.take 0 (.take 2 (.all [(1, .all [(3, .all [(4, .all [(5, .all [(6, .all [(7, .done)])])]), (5, .all [(4, .all [(6, .all [(7, .done)])])])]), (4, .all [(3, .all [(5, .all [(6, .all [(7, .done)])])]), (5, .all [(3, .all [(6, .all [(7, .done)])])])]), (5, .all [(3, .all [(4, .all [(6, .all [(7, .done)])])]), (4, .all [(3, .all [(6, .all [(7, .done)])])])])]), (4, .all [(1, .all [(3, .all [(5, .all [(6, .all [(7, .done)])])]), (5, .all [(3, .all [(6, .all [(7, .done)])])])]), (5, .all [(1, .all [(3, .all [(6, .all [(7, .done)])])])])]), (5, .all [(1, .all [(3, .all [(4, .all [(6, .all [(7, .done)])])]), (4, .all [(3, .all [(6, .all [(7, .done)])])])]), (4, .all [(1, .all [(3, .all [(6, .all [(7, .done)])])])])])]))) ?_
    (repeat' (first | (show TL _ _ _ _ (_ :: _) _ _ _; first | refine TL.sa ?_ | (refine TL.na ?_; intro _)) | (first | refine Stp.h ?_ | refine Post.then_normal ?_ | refine Post.next ?_ | refine Post.block_other rfl ?_) | (show TT _ _ _ _ _ _ _ _ _; refine TT.sa ?_) | exact TTs.nil | refine TTs.cons ?_ ?_ | (show T1 _ _ _ _ _ _ _ _ _ _; first | refine T1.sa ?_ | (refine T1.na ?_; intro _)) | (show TC _ _ _ _ _ _ _ _ _ _; first | refine TC.goa ?_ | refine TC.fina ?_) | refine Tri.ca ?_))
    iterate 2
      all_goals
        first
          | (refine T1.callv rfl rfl rfl rfl rfl fx ?_
             rintro _ _ ⟨a, ha, rfl, rfl⟩)
          | (refine T1.callv rfl rfl rfl rfl rfl fy ?_
             rintro _ _ ⟨b, hb, rfl, rfl⟩)
        (repeat' (first | (show TL _ _ _ _ (_ :: _) _ _ _; first | refine TL.sa ?_ | (refine TL.na ?_; intro _)) | (first | refine Stp.h ?_ | refine Post.then_normal ?_ | refine Post.next ?_ | refine Post.block_other rfl ?_) | (show TT _ _ _ _ _ _ _ _ _; refine TT.sa ?_) | exact TTs.nil | refine TTs.cons ?_ ?_ | (show T1 _ _ _ _ _ _ _ _ _ _; first | refine T1.sa ?_ | (refine T1.na ?_; intro _)) | (show TC _ _ _ _ _ _ _ _ _ _; first | refine TC.goa ?_ | refine TC.fina ?_) | refine Tri.ca ?_))
    all_goals exact Post.cut _ _ ⟨a, b, _, _, ha, hb, rfl, rfl⟩ (by (exact Sub.au)) (by (exact Ents.au))
  rintro _ _ ⟨a, b, b5, b6, ha, hb, rfl, rfl⟩
  clear fx fy
  have ha6 : Fit 600 a := ha.mono (by decide)
  have hb6 : Fit 600 b := hb.mono (by decide)
  have hD6 : Fit 600 (a - b) := (ha.sub hb).mono (by decide)
  have f0 : Fit 600 (0 : Rat) := (Fit.of (k := 1) (by decide) (by decide) (by decide)).mono (by decide)
  have f1 : Fit 600 (1 : Rat) := (Fit.of (k := 1) (by decide) (by decide) (by decide)).mono (by decide)
  have qa : tN a = tN a ∧ tD a = tD a := ⟨rfl, rfl⟩
  have qb : tN b = tN b ∧ tD b = tD b := ⟨rfl, rfl⟩
  obtain ⟨o1, o2, o3⟩ := ordQ_three a b
  have hinj := tND_inj ha6 hb6
  (repeat' (first | (show TL _ _ _ _ (_ :: _) _ _ _; first | refine TL.sa ?_ | (refine TL.na ?_; intro _)) | (first | refine Stp.h ?_ | refine Post.then_normal ?_ | refine Post.next ?_ | refine Post.block_other rfl ?_) | (show TT _ _ _ _ _ _ _ _ _; refine TT.sa ?_) | exact TTs.nil | refine TTs.cons ?_ ?_ | (show T1 _ _ _ _ _ _ _ _ _ _; first | refine T1.sa ?_ | (refine T1.na ?_; intro _)) | (show TC _ _ _ _ _ _ _ _ _ _; first | refine TC.goa ?_ | refine TC.fina ?_) | refine Tri.ca ?_))
  refine TL.callv rfl rfl rfl rfl (cmpT_ok (r := a) (s := b) ha6 hb6) ?_
  rintro _ _ ⟨rfl, rfl⟩
  (repeat' (first | (show TL _ _ _ _ (_ :: _) _ _ _; first | refine TL.sa ?_ | (refine TL.na ?_; intro _)) | (first | refine Stp.h ?_ | refine Post.then_normal ?_ | refine Post.next ?_ | refine Post.block_other rfl ?_) | (show TT _ _ _ _ _ _ _ _ _; refine TT.sa ?_) | exact TTs.nil | refine TTs.cons ?_ ?_ | (show T1 _ _ _ _ _ _ _ _ _ _; first | refine T1.sa ?_ | (refine T1.na ?_; intro _)) | (show TC _ _ _ _ _ _ _ _ _ _; first | refine TC.goa ?_ | refine TC.fina ?_) | refine Tri.ca ?_))
  refine TL.callv rfl rfl rfl rfl (subT_ok ht (r := a) (s := b) ha6 hb6 hD6) ?_
  rintro _ _ ⟨rfl, rfl⟩
  (repeat' (first | (show TL _ _ _ _ (_ :: _) _ _ _; first | refine TL.sa ?_ | (refine TL.na ?_; intro _)) | (first | refine Stp.h ?_ | refine Post.then_normal ?_ | refine Post.next ?_ | refine Post.block_other rfl ?_) | (show TT _ _ _ _ _ _ _ _ _; refine TT.sa ?_) | exact TTs.nil | refine TTs.cons ?_ ?_ | (show T1 _ _ _ _ _ _ _ _ _ _; first | refine T1.sa ?_ | (refine T1.na ?_; intro _)) | (show TC _ _ _ _ _ _ _ _ _ _; first | refine TC.goa ?_ | refine TC.fina ?_) | refine Tri.ca ?_))
  refine TL.callv rfl rfl rfl rfl (signT_ok (r := a - b) hD6) ?_
  rw [sign_sub]
  rintro _ _ ⟨rfl, rfl⟩
  (repeat' (first | (show TL _ _ _ _ (_ :: _) _ _ _; first | refine TL.sa ?_ | (refine TL.na ?_; intro _)) | (first | refine Stp.h ?_ | refine Post.then_normal ?_ | refine Post.next ?_ | refine Post.block_other rfl ?_) | refine Tri.ca ?_))
  refine TL.callv rfl rfl rfl rfl (minT_ok ht (r := a) (s := b) ha6 hb6) ?_
  rintro _ _ ⟨rfl, rfl⟩
  (repeat' (first | (show TL _ _ _ _ (_ :: _) _ _ _; first | refine TL.sa ?_ | (refine TL.na ?_; intro _)) | (first | refine Stp.h ?_ | refine Post.then_normal ?_ | refine Post.next ?_ | refine Post.block_other rfl ?_) | refine Tri.ca ?_))
  refine TL.callv rfl rfl rfl rfl (maxT_ok ht (r := b) (s := a) hb6 ha6) ?_
  rintro _ _ ⟨rfl, rfl⟩
  have tri : a < b ∨ a = b ∨ b < a := by
    rcases Rat.le_total (a := a) (b := b) with h | h
    · by_cases e : a = b
      · exact .inr (.inl e)
      · exact .inl (Rat.lt_of_le_of_ne h e)
    · by_cases e : a = b
      · exact .inr (.inl e)
      · exact .inr (.inr (Rat.lt_of_le_of_ne h (fun k => e k.symm)))
  rcases tri with hab | hab | hab
  · have n1 : ¬ b < a := Rat.not_lt.2 (Rat.le_of_lt hab)
    have hne : ¬ (tN a = tN b ∧ tD a = tD b) := fun h => Rat.lt_irrefl (a := a) (by have := hinj.1 h; rw [← this] at hab; exact hab)
    rw [o1 hab, show minQ a b = a from if_neg n1, show maxQ b a = b from if_neg n1]
    have hg : decide ((-1 : Int) = 0) = decide (tN a = tN b ∧ tD a = tD b) := by rw [decide_eq_false hne]; rfl
    clear o1 o2 o3 hinj n1 hab
    (repeat' (first | (show TL _ _ _ _ (_ :: _) _ _ _; first | refine TL.sa ?_ | (refine TL.na ?_; intro _)) | (first | refine Stp.h ?_ | refine Post.then_normal ?_ | refine Post.next ?_ | refine Post.block_other rfl ?_) | refine Tri.ca ?_))
    refine TL.f rfl rfl (ExF.eqlFr rfl rfl) ?_
    (repeat' (first | (show TL _ _ _ _ (_ :: _) _ _ _; first | refine TL.sa ?_ | (refine TL.na ?_; intro _)) | (first | refine Stp.h ?_ | refine Post.then_normal ?_ | refine Post.next ?_ | refine Post.block_other rfl ?_) | refine Tri.ca ?_))
    refine TL.f rfl rfl (ExF.neqFr rfl rfl) ?_
    (repeat' (first | (show TL _ _ _ _ (_ :: _) _ _ _; first | refine TL.sa ?_ | (refine TL.na ?_; intro _)) | (first | refine Stp.h ?_ | refine Post.then_normal ?_ | refine Post.next ?_ | refine Post.block_other rfl ?_) | refine Tri.ca ?_))
    refine TL.f rfl rfl (ExF.neqFr rfl rfl) ?_
    (repeat' (first | (show TL _ _ _ _ (_ :: _) _ _ _; first | refine TL.sa ?_ | (refine TL.na ?_; intro _)) | (first | refine Stp.h ?_ | refine Post.then_normal ?_ | refine Post.next ?_ | refine Post.block_other rfl ?_) | refine Tri.ca ?_))
    obtain ⟨u1, u2⟩ := clamp_in a
    have hK6 : Fit 600 (minQ (maxQ a 0) 1) := fit_min (fit_max ha6 f0) f1
    refine TL.callv rfl rfl rfl rfl (negT_ok ht (r := a) ha6) ?_
    rintro _ _ ⟨rfl, rfl⟩
    (repeat' (first | (show TL _ _ _ _ (_ :: _) _ _ _; first | refine TL.sa ?_ | (refine TL.na ?_; intro _)) | (first | refine Stp.h ?_ | refine Post.then_normal ?_ | refine Post.next ?_ | refine Post.block_other rfl ?_) | refine Tri.ca ?_))
    refine TL.callv rfl rfl rfl rfl (absT_ok ht (r := a) ha6) ?_
    rintro _ _ ⟨rfl, rfl⟩
    (repeat' (first | (show TL _ _ _ _ (_ :: _) _ _ _; first | refine TL.sa ?_ | (refine TL.na ?_; intro _)) | (first | refine Stp.h ?_ | refine Post.then_normal ?_ | refine Post.next ?_ | refine Post.block_other rfl ?_) | refine Tri.ca ?_))
    refine TL.callv rfl rfl rfl rfl (qT_ok ht (n := 0) (d := 1) (r := 0) (by decide) (by decide) (by decide +kernel) f0) ?_
    rintro _ _ ⟨rfl, rfl⟩
    (repeat' (first | (show TL _ _ _ _ (_ :: _) _ _ _; first | refine TL.sa ?_ | (refine TL.na ?_; intro _)) | (first | refine Stp.h ?_ | refine Post.then_normal ?_ | refine Post.next ?_ | refine Post.block_other rfl ?_) | refine Tri.ca ?_))
    refine TL.callv rfl rfl rfl rfl (qT_ok ht (n := 1) (d := 1) (r := 1) (by decide) (by decide) (by decide +kernel) f1) ?_
    rintro _ _ ⟨rfl, rfl⟩
    (repeat' (first | (show TL _ _ _ _ (_ :: _) _ _ _; first | refine TL.sa ?_ | (refine TL.na ?_; intro _)) | (first | refine Stp.h ?_ | refine Post.then_normal ?_ | refine Post.next ?_ | refine Post.block_other rfl ?_) | refine Tri.ca ?_))
    refine TL.callv rfl rfl rfl rfl (signT_ok (r := a) ha6) ?_
    rintro _ _ ⟨rfl, rfl⟩
    (repeat' (first | (show TL _ _ _ _ (_ :: _) _ _ _; first | refine TL.sa ?_ | (refine TL.na ?_; intro _)) | (first | refine Stp.h ?_ | refine Post.then_normal ?_ | refine Post.next ?_ | refine Post.block_other rfl ?_) | refine Tri.ca ?_))
    refine TL.callv rfl rfl rfl rfl (clampT_ok ht (r := a) (s := 0) (t := 1) ha6 f0 f1 (by decide)) ?_
    rintro _ _ ⟨rfl, rfl⟩
    generalize minQ (maxQ a 0) 1 = K at u1 u2 hK6 ⊢
    (repeat' (first | (show TL _ _ _ _ (_ :: _) _ _ _; first | refine TL.sa ?_ | (refine TL.na ?_; intro _)) | (first | refine Stp.h ?_ | refine Post.then_normal ?_ | refine Post.next ?_ | refine Post.block_other rfl ?_) | refine Tri.ca ?_))
    refine TL.callv rfl rfl rfl rfl (cmpT_ok (r := K) (s := 0) hK6 f0) ?_
    rintro _ _ ⟨rfl, rfl⟩
    (repeat' (first | (show TL _ _ _ _ (_ :: _) _ _ _; first | refine TL.sa ?_ | (refine TL.na ?_; intro _)) | (first | refine Stp.h ?_ | refine Post.then_normal ?_ | refine Post.next ?_ | refine Post.block_other rfl ?_) | refine Tri.ca ?_))
    refine TL.callv rfl rfl rfl rfl (cmpT_ok (r := K) (s := 1) hK6 f1) ?_
    rintro _ _ ⟨rfl, rfl⟩
    generalize ordQ K 0 = U at u1 ⊢
    generalize ordQ K 1 = V at u2 ⊢
    have u1' : U ≥ 0 := by omega
    have u2' : V ≤ 0 := by omega
    obtain ⟨s1, s2, s3⟩ := signI_three a.num
    by_cases hs : a.num < 0
    · have e1 := s1 hs
      have qn : tN (-a) = tN (-a) ∧ tD (-a) = tD (-a) := ⟨rfl, rfl⟩
      rw [e1, show absQ a = -a from if_pos hs]
      (repeat' (first | (show TL _ _ _ _ (_ :: _) _ _ _; first | refine TL.sa ?_ | (refine TL.na ?_; intro _)) | (first | refine Stp.h ?_ | refine Post.then_normal ?_ | refine Post.next ?_ | refine Post.block_other rfl ?_) | refine Tri.ca ?_))
      refine TL.f rfl rfl (ExF.eqlFr rfl rfl) ?_
      (repeat' (first | (show TL _ _ _ _ (_ :: _) _ _ _; first | refine TL.sa ?_ | (refine TL.na ?_; intro _)) | (first | refine Stp.h ?_ | refine Post.then_normal ?_ | refine Post.next ?_ | refine Post.block_other rfl ?_) | refine Tri.ca ?_))
      (refine Post.ra ?_)
      exact ⟨[], by rw [decide_eq_true u2'], Ents.of_cov inferInstance⟩
    · have e1 : 0 ≤ signI a.num := by
        by_cases h : a.num = 0
        · rw [s2 h]; exact Int.le_refl _
        · rw [s3 (by omega)]; decide
      have e2 : ¬ signI a.num < 0 := by omega
      rw [show absQ a = a from if_neg hs]
      clear s1 s2 s3 u1 u2 hs
      generalize signI a.num = sg at e1 e2 ⊢
      (repeat' (first | (show TL _ _ _ _ (_ :: _) _ _ _; first | refine TL.sa ?_ | (refine TL.na ?_; intro _)) | (first | refine Stp.h ?_ | refine Post.then_normal ?_ | refine Post.next ?_ | refine Post.block_other rfl ?_) | refine Tri.ca ?_))
      refine TL.f rfl rfl (ExF.eqlFr rfl rfl) ?_
      (repeat' (first | (show TL _ _ _ _ (_ :: _) _ _ _; first | refine TL.sa ?_ | (refine TL.na ?_; intro _)) | (first | refine Stp.h ?_ | refine Post.then_normal ?_ | refine Post.next ?_ | refine Post.block_other rfl ?_) | refine Tri.ca ?_))
      (refine Post.ra ?_)
      exact ⟨[], by rw [decide_eq_true u2'], Ents.of_cov inferInstance⟩
  · subst hab
    rw [o2 rfl, show minQ a a = a from by unfold minQ; split <;> rfl, show maxQ a a = a from by unfold maxQ; split <;> rfl]
    have hg : decide ((0 : Int) = 0) = decide (tN a = tN a ∧ tD a = tD a) := by rw [decide_eq_true qa]; rfl
    clear o1 o2 o3 hinj
    (repeat' (first | (show TL _ _ _ _ (_ :: _) _ _ _; first | refine TL.sa ?_ | (refine TL.na ?_; intro _)) | (first | refine Stp.h ?_ | refine Post.then_normal ?_ | refine Post.next ?_ | refine Post.block_other rfl ?_) | refine Tri.ca ?_))
    refine TL.f rfl rfl (ExF.eqlFr rfl rfl) ?_
    (repeat' (first | (show TL _ _ _ _ (_ :: _) _ _ _; first | refine TL.sa ?_ | (refine TL.na ?_; intro _)) | (first | refine Stp.h ?_ | refine Post.then_normal ?_ | refine Post.next ?_ | refine Post.block_other rfl ?_) | refine Tri.ca ?_))
    refine TL.f rfl rfl (ExF.neqFr rfl rfl) ?_
    (repeat' (first | (show TL _ _ _ _ (_ :: _) _ _ _; first | refine TL.sa ?_ | (refine TL.na ?_; intro _)) | (first | refine Stp.h ?_ | refine Post.then_normal ?_ | refine Post.next ?_ | refine Post.block_other rfl ?_) | refine Tri.ca ?_))
    refine TL.f rfl rfl (ExF.neqFr rfl rfl) ?_
    (repeat' (first | (show TL _ _ _ _ (_ :: _) _ _ _; first | refine TL.sa ?_ | (refine TL.na ?_; intro _)) | (first | refine Stp.h ?_ | refine Post.then_normal ?_ | refine Post.next ?_ | refine Post.block_other rfl ?_) | refine Tri.ca ?_))
    obtain ⟨u1, u2⟩ := clamp_in a
    have hK6 : Fit 600 (minQ (maxQ a 0) 1) := fit_min (fit_max ha6 f0) f1
    refine TL.callv rfl rfl rfl rfl (negT_ok ht (r := a) ha6) ?_
    rintro _ _ ⟨rfl, rfl⟩
    (repeat' (first | (show TL _ _ _ _ (_ :: _) _ _ _; first | refine TL.sa ?_ | (refine TL.na ?_; intro _)) | (first | refine Stp.h ?_ | refine Post.then_normal ?_ | refine Post.next ?_ | refine Post.block_other rfl ?_) | refine Tri.ca ?_))
    refine TL.callv rfl rfl rfl rfl (absT_ok ht (r := a) ha6) ?_
    rintro _ _ ⟨rfl, rfl⟩
    (repeat' (first | (show TL _ _ _ _ (_ :: _) _ _ _; first | refine TL.sa ?_ | (refine TL.na ?_; intro _)) | (first | refine Stp.h ?_ | refine Post.then_normal ?_ | refine Post.next ?_ | refine Post.block_other rfl ?_) | refine Tri.ca ?_))
    refine TL.callv rfl rfl rfl rfl (qT_ok ht (n := 0) (d := 1) (r := 0) (by decide) (by decide) (by decide +kernel) f0) ?_
    rintro _ _ ⟨rfl, rfl⟩
    (repeat' (first | (show TL _ _ _ _ (_ :: _) _ _ _; first | refine TL.sa ?_ | (refine TL.na ?_; intro _)) | (first | refine Stp.h ?_ | refine Post.then_normal ?_ | refine Post.next ?_ | refine Post.block_other rfl ?_) | refine Tri.ca ?_))
    refine TL.callv rfl rfl rfl rfl (qT_ok ht (n := 1) (d := 1) (r := 1) (by decide) (by decide) (by decide +kernel) f1) ?_
    rintro _ _ ⟨rfl, rfl⟩
    (repeat' (first | (show TL _ _ _ _ (_ :: _) _ _ _; first | refine TL.sa ?_ | (refine TL.na ?_; intro _)) | (first | refine Stp.h ?_ | refine Post.then_normal ?_ | refine Post.next ?_ | refine Post.block_other rfl ?_) | refine Tri.ca ?_))
    refine TL.callv rfl rfl rfl rfl (signT_ok (r := a) ha6) ?_
    rintro _ _ ⟨rfl, rfl⟩
    (repeat' (first | (show TL _ _ _ _ (_ :: _) _ _ _; first | refine TL.sa ?_ | (refine TL.na ?_; intro _)) | (first | refine Stp.h ?_ | refine Post.then_normal ?_ | refine Post.next ?_ | refine Post.block_other rfl ?_) | refine Tri.ca ?_))
    refine TL.callv rfl rfl rfl rfl (clampT_ok ht (r := a) (s := 0) (t := 1) ha6 f0 f1 (by decide)) ?_
    rintro _ _ ⟨rfl, rfl⟩
    generalize minQ (maxQ a 0) 1 = K at u1 u2 hK6 ⊢
    (repeat' (first | (show TL _ _ _ _ (_ :: _) _ _ _; first | refine TL.sa ?_ | (refine TL.na ?_; intro _)) | (first | refine Stp.h ?_ | refine Post.then_normal ?_ | refine Post.next ?_ | refine Post.block_other rfl ?_) | refine Tri.ca ?_))
    refine TL.callv rfl rfl rfl rfl (cmpT_ok (r := K) (s := 0) hK6 f0) ?_
    rintro _ _ ⟨rfl, rfl⟩
    (repeat' (first | (show TL _ _ _ _ (_ :: _) _ _ _; first | refine TL.sa ?_ | (refine TL.na ?_; intro _)) | (first | refine Stp.h ?_ | refine Post.then_normal ?_ | refine Post.next ?_ | refine Post.block_other rfl ?_) | refine Tri.ca ?_))
    refine TL.callv rfl rfl rfl rfl (cmpT_ok (r := K) (s := 1) hK6 f1) ?_
    rintro _ _ ⟨rfl, rfl⟩
    generalize ordQ K 0 = U at u1 ⊢
    generalize ordQ K 1 = V at u2 ⊢
    have u1' : U ≥ 0 := by omega
    have u2' : V ≤ 0 := by omega
    obtain ⟨s1, s2, s3⟩ := signI_three a.num
    by_cases hs : a.num < 0
    · have e1 := s1 hs
      have qn : tN (-a) = tN (-a) ∧ tD (-a) = tD (-a) := ⟨rfl, rfl⟩
      rw [e1, show absQ a = -a from if_pos hs]
      (repeat' (first | (show TL _ _ _ _ (_ :: _) _ _ _; first | refine TL.sa ?_ | (refine TL.na ?_; intro _)) | (first | refine Stp.h ?_ | refine Post.then_normal ?_ | refine Post.next ?_ | refine Post.block_other rfl ?_) | refine Tri.ca ?_))
      refine TL.f rfl rfl (ExF.eqlFr rfl rfl) ?_
      (repeat' (first | (show TL _ _ _ _ (_ :: _) _ _ _; first | refine TL.sa ?_ | (refine TL.na ?_; intro _)) | (first | refine Stp.h ?_ | refine Post.then_normal ?_ | refine Post.next ?_ | refine Post.block_other rfl ?_) | refine Tri.ca ?_))
      (refine Post.ra ?_)
      exact ⟨[], by rw [decide_eq_true u2'], Ents.of_cov inferInstance⟩
    · have e1 : 0 ≤ signI a.num := by
        by_cases h : a.num = 0
        · rw [s2 h]; exact Int.le_refl _
        · rw [s3 (by omega)]; decide
      have e2 : ¬ signI a.num < 0 := by omega
      rw [show absQ a = a from if_neg hs]
      clear s1 s2 s3 u1 u2 hs
      generalize signI a.num = sg at e1 e2 ⊢
      (repeat' (first | (show TL _ _ _ _ (_ :: _) _ _ _; first | refine TL.sa ?_ | (refine TL.na ?_; intro _)) | (first | refine Stp.h ?_ | refine Post.then_normal ?_ | refine Post.next ?_ | refine Post.block_other rfl ?_) | refine Tri.ca ?_))
      refine TL.f rfl rfl (ExF.eqlFr rfl rfl) ?_
      (repeat' (first | (show TL _ _ _ _ (_ :: _) _ _ _; first | refine TL.sa ?_ | (refine TL.na ?_; intro _)) | (first | refine Stp.h ?_ | refine Post.then_normal ?_ | refine Post.next ?_ | refine Post.block_other rfl ?_) | refine Tri.ca ?_))
      (refine Post.ra ?_)
      exact ⟨[], by rw [decide_eq_true u2'], Ents.of_cov inferInstance⟩
  · have hne : ¬ (tN a = tN b ∧ tD a = tD b) := fun h => Rat.lt_irrefl (a := a) (by have := hinj.1 h; rw [← this] at hab; exact hab)
    rw [o3 hab, show minQ a b = b from if_pos hab, show maxQ b a = a from if_pos hab]
    have hg : decide ((1 : Int) = 0) = decide (tN a = tN b ∧ tD a = tD b) := by rw [decide_eq_false hne]; rfl
    clear o1 o2 o3 hinj hab
    (repeat' (first | (show TL _ _ _ _ (_ :: _) _ _ _; first | refine TL.sa ?_ | (refine TL.na ?_; intro _)) | (first | refine Stp.h ?_ | refine Post.then_normal ?_ | refine Post.next ?_ | refine Post.block_other rfl ?_) | refine Tri.ca ?_))
    refine TL.f rfl rfl (ExF.eqlFr rfl rfl) ?_
    (repeat' (first | (show TL _ _ _ _ (_ :: _) _ _ _; first | refine TL.sa ?_ | (refine TL.na ?_; intro _)) | (first | refine Stp.h ?_ | refine Post.then_normal ?_ | refine Post.next ?_ | refine Post.block_other rfl ?_) | refine Tri.ca ?_))
    refine TL.f rfl rfl (ExF.neqFr rfl rfl) ?_
    (repeat' (first | (show TL _ _ _ _ (_ :: _) _ _ _; first | refine TL.sa ?_ | (refine TL.na ?_; intro _)) | (first | refine Stp.h ?_ | refine Post.then_normal ?_ | refine Post.next ?_ | refine Post.block_other rfl ?_) | refine Tri.ca ?_))
    refine TL.f rfl rfl (ExF.neqFr rfl rfl) ?_
    (repeat' (first | (show TL _ _ _ _ (_ :: _) _ _ _; first | refine TL.sa ?_ | (refine TL.na ?_; intro _)) | (first | refine Stp.h ?_ | refine Post.then_normal ?_ | refine Post.next ?_ | refine Post.block_other rfl ?_) | refine Tri.ca ?_))
    obtain ⟨u1, u2⟩ := clamp_in a
    have hK6 : Fit 600 (minQ (maxQ a 0) 1) := fit_min (fit_max ha6 f0) f1
    refine TL.callv rfl rfl rfl rfl (negT_ok ht (r := a) ha6) ?_
    rintro _ _ ⟨rfl, rfl⟩
    (repeat' (first | (show TL _ _ _ _ (_ :: _) _ _ _; first | refine TL.sa ?_ | (refine TL.na ?_; intro _)) | (first | refine Stp.h ?_ | refine Post.then_normal ?_ | refine Post.next ?_ | refine Post.block_other rfl ?_) | refine Tri.ca ?_))
    refine TL.callv rfl rfl rfl rfl (absT_ok ht (r := a) ha6) ?_
    rintro _ _ ⟨rfl, rfl⟩
    (repeat' (first | (show TL _ _ _ _ (_ :: _) _ _ _; first | refine TL.sa ?_ | (refine TL.na ?_; intro _)) | (first | refine Stp.h ?_ | refine Post.then_normal ?_ | refine Post.next ?_ | refine Post.block_other rfl ?_) | refine Tri.ca ?_))
    refine TL.callv rfl rfl rfl rfl (qT_ok ht (n := 0) (d := 1) (r := 0) (by decide) (by decide) (by decide +kernel) f0) ?_
    rintro _ _ ⟨rfl, rfl⟩
    (repeat' (first | (show TL _ _ _ _ (_ :: _) _ _ _; first | refine TL.sa ?_ | (refine TL.na ?_; intro _)) | (first | refine Stp.h ?_ | refine Post.then_normal ?_ | refine Post.next ?_ | refine Post.block_other rfl ?_) | refine Tri.ca ?_))
    refine TL.callv rfl rfl rfl rfl (qT_ok ht (n := 1) (d := 1) (r := 1) (by decide) (by decide) (by decide +kernel) f1) ?_
    rintro _ _ ⟨rfl, rfl⟩
    (repeat' (first | (show TL _ _ _ _ (_ :: _) _ _ _; first | refine TL.sa ?_ | (refine TL.na ?_; intro _)) | (first | refine Stp.h ?_ | refine Post.then_normal ?_ | refine Post.next ?_ | refine Post.block_other rfl ?_) | refine Tri.ca ?_))
    refine TL.callv rfl rfl rfl rfl (signT_ok (r := a) ha6) ?_
    rintro _ _ ⟨rfl, rfl⟩
    (repeat' (first | (show TL _ _ _ _ (_ :: _) _ _ _; first | refine TL.sa ?_ | (refine TL.na ?_; intro _)) | (first | refine Stp.h ?_ | refine Post.then_normal ?_ | refine Post.next ?_ | refine Post.block_other rfl ?_) | refine Tri.ca ?_))
    refine TL.callv rfl rfl rfl rfl (clampT_ok ht (r := a) (s := 0) (t := 1) ha6 f0 f1 (by decide)) ?_
    rintro _ _ ⟨rfl, rfl⟩
    generalize minQ (maxQ a 0) 1 = K at u1 u2 hK6 ⊢
    (repeat' (first | (show TL _ _ _ _ (_ :: _) _ _ _; first | refine TL.sa ?_ | (refine TL.na ?_; intro _)) | (first | refine Stp.h ?_ | refine Post.then_normal ?_ | refine Post.next ?_ | refine Post.block_other rfl ?_) | refine Tri.ca ?_))
    refine TL.callv rfl rfl rfl rfl (cmpT_ok (r := K) (s := 0) hK6 f0) ?_
    rintro _ _ ⟨rfl, rfl⟩
    (repeat' (first | (show TL _ _ _ _ (_ :: _) _ _ _; first | refine TL.sa ?_ | (refine TL.na ?_; intro _)) | (first | refine Stp.h ?_ | refine Post.then_normal ?_ | refine Post.next ?_ | refine Post.block_other rfl ?_) | refine Tri.ca ?_))
    refine TL.callv rfl rfl rfl rfl (cmpT_ok (r := K) (s := 1) hK6 f1) ?_
    rintro _ _ ⟨rfl, rfl⟩
    generalize ordQ K 0 = U at u1 ⊢
    generalize ordQ K 1 = V at u2 ⊢
    have u1' : U ≥ 0 := by omega
    have u2' : V ≤ 0 := by omega
    obtain ⟨s1, s2, s3⟩ := signI_three a.num
    by_cases hs : a.num < 0
    · have e1 := s1 hs
      have qn : tN (-a) = tN (-a) ∧ tD (-a) = tD (-a) := ⟨rfl, rfl⟩
      rw [e1, show absQ a = -a from if_pos hs]
      (repeat' (first | (show TL _ _ _ _ (_ :: _) _ _ _; first | refine TL.sa ?_ | (refine TL.na ?_; intro _)) | (first | refine Stp.h ?_ | refine Post.then_normal ?_ | refine Post.next ?_ | refine Post.block_other rfl ?_) | refine Tri.ca ?_))
      refine TL.f rfl rfl (ExF.eqlFr rfl rfl) ?_
      (repeat' (first | (show TL _ _ _ _ (_ :: _) _ _ _; first | refine TL.sa ?_ | (refine TL.na ?_; intro _)) | (first | refine Stp.h ?_ | refine Post.then_normal ?_ | refine Post.next ?_ | refine Post.block_other rfl ?_) | refine Tri.ca ?_))
      (refine Post.ra ?_)
      exact ⟨[], by rw [decide_eq_true u2'], Ents.of_cov inferInstance⟩
    · have e1 : 0 ≤ signI a.num := by
        by_cases h : a.num = 0
        · rw [s2 h]; exact Int.le_refl _
        · rw [s3 (by omega)]; decide
      have e2 : ¬ signI a.num < 0 := by omega
      rw [show absQ a = a from if_neg hs]
      clear s1 s2 s3 u1 u2 hs
      generalize signI a.num = sg at e1 e2 ⊢
      (repeat' (first | (show TL _ _ _ _ (_ :: _) _ _ _; first | refine TL.sa ?_ | (refine TL.na ?_; intro _)) | (first | refine Stp.h ?_ | refine Post.then_normal ?_ | refine Post.next ?_ | refine Post.block_other rfl ?_) | refine Tri.ca ?_))
      refine TL.f rfl rfl (ExF.eqlFr rfl rfl) ?_
      (repeat' (first | (show TL _ _ _ _ (_ :: _) _ _ _; first | refine TL.sa ?_ | (refine TL.na ?_; intro _)) | (first | refine Stp.h ?_ | refine Post.then_normal ?_ | refine Post.next ?_ | refine Post.block_other rfl ?_) | refine Tri.ca ?_))
      (refine Post.ra ?_)
      exact ⟨[], by rw [decide_eq_true u2'], Ents.of_cov inferInstance⟩
end Go.Proofs.YtldljckhfcoafaaGreatDoor.Q
