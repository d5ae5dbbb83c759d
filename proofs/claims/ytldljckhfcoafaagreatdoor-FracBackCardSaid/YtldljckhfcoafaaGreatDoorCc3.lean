/- Walks: frac: fractions are read, reduced; operations on two. -/
import Derived.Test.YtldljckhfcoafaaGreatDoorCc2
namespace Go.Proofs.YtldljckhfcoafaaGreatDoor.Q
open Go Go.Sx
variable {w0 : World} {As : List Ent}
/-- what comes back when a fraction is read -/
def ReadF (As : List Ent) (o : Option Rat) (u : Value) (Bs : List Ent) : Prop := match o with
  | some r => ∃ p cap q cap', u = .tuple #[.agg #[.slice p (mag r.num.natAbs).length cap, .bool (decide (r.num < 0)), .slice q (mag r.den).length cap'], .bool true] ∧ Bs = .ft (rd (cN .u32) (.slice p (mag r.num.natAbs).length cap) (mag r.num.natAbs)) :: .ft (rd (cN .u32) (.slice q (mag r.den).length cap') (mag r.den)) :: As
  | none => u = .tuple #[.agg #[.slice none 0 0, .bool false, .slice none 0 0], .bool false] ∧ Bs = As
def fracV (n d : List UInt8) : Value := .agg #[.string ⟨n.toArray⟩, .string ⟨d.toArray⟩]
theorem checkW_some {s : List UInt8} {x : Int} (h : readW s = some x) : checkW s = 0 := by rw [checkW, h]; rfl
theorem checkW_none {s : List UInt8} (h : readW s = none) : checkW s = 10 := by rw [checkW, h]; rfl
theorem signI_lt1 {y : Int} : signI y < 1 ↔ ¬ 0 < y := by unfold signI; split <;> (try split) <;> omega
set_option maxHeartbeats 2000000 in
theorem read_ok {n d : List UInt8} (hn : n.length ≤ 1000000000) (hd : d.length ≤ 1000000000) : CallsS Tryz.prog w0 54 [.agg #[.string ⟨n.toArray⟩, .string ⟨d.toArray⟩]] As (ReadF As (readF n d)) := by
  refine CallsS.of_tri Tryz.func54 rfl Tryz.ntmps54 rfl ?_
  (repeat' (first | (show TL _ _ _ _ (_ :: _) _ _ _; first | refine TL.sa ?_ | (refine TL.na ?_; intro _)) | (first | refine Stp.h ?_ | refine Post.then_normal ?_ | refine Post.next ?_ | refine Post.block_other rfl ?_) | refine Tri.ca ?_))
  rename_i b1 b2
  refine TL.call rfl rfl rfl (check_okW hn) ?_
  rintro _ _ ⟨rfl, rfl⟩
  cases h1 : readW n with
  | none =>
    have hR : readF n d = none := by unfold readF; rw [h1]
    rw [hR, checkW_none h1]
    (repeat' (first | (show TL _ _ _ _ (_ :: _) _ _ _; first | refine TL.sa ?_ | (refine TL.na ?_; intro _)) | (first | refine Stp.h ?_ | refine Post.then_normal ?_ | refine Post.next ?_ | refine Post.block_other rfl ?_) | refine Tri.ca ?_))
    (refine Post.ra ?_)
    exact ⟨_, ⟨rfl, rfl⟩, by (exact Ents.au)⟩
  | some x =>
    rw [checkW_some h1]
    (repeat' (first | (show TL _ _ _ _ (_ :: _) _ _ _; first | refine TL.sa ?_ | (refine TL.na ?_; intro _)) | (first | refine Stp.h ?_ | refine Post.then_normal ?_ | refine Post.next ?_ | refine Post.block_other rfl ?_) | refine Tri.ca ?_))
    refine TL.call rfl rfl rfl (check_okW hd) ?_
    rintro _ _ ⟨rfl, rfl⟩
    cases h2 : readW d with
    | none =>
      have hR : readF n d = none := by unfold readF; rw [h1, h2]
      rw [hR, checkW_none h2]
      (repeat' (first | (show TL _ _ _ _ (_ :: _) _ _ _; first | refine TL.sa ?_ | (refine TL.na ?_; intro _)) | (first | refine Stp.h ?_ | refine Post.then_normal ?_ | refine Post.next ?_ | refine Post.block_other rfl ?_) | refine Tri.ca ?_))
      (refine Post.ra ?_)
      exact ⟨_, ⟨rfl, rfl⟩, by (exact Ents.au)⟩
    | some y =>
      rw [checkW_some h2]
      have lx : (mag x.natAbs).length ≤ 600 := readW_len h1
      have ly : (mag y.natAbs).length ≤ 600 := readW_len h2
      (repeat' (first | (show TL _ _ _ _ (_ :: _) _ _ _; first | refine TL.sa ?_ | (refine TL.na ?_; intro _)) | (first | refine Stp.h ?_ | refine Post.then_normal ?_ | refine Post.next ?_ | refine Post.block_other rfl ?_) | refine Tri.ca ?_))
      refine Tri.mid (fun e' As' => ∃ p cap q cap' b4 b5, e' = [(2, .pointer (some ⟨b2, 0, none⟩)), (4, .pointer (some ⟨b4, 0, none⟩)), (5, .pointer (some ⟨b5, 0, none⟩))] ∧
        As' = .cl b4 [.slice p (mag x.natAbs).length cap, .bool (decide (x < 0))] 100 :: .cl b5 [.slice q (mag y.natAbs).length cap', .bool (decide (y < 0))] 100 :: .ft (rd (cN .u32) (.slice p (mag x.natAbs).length cap) (mag x.natAbs)) :: .ft (rd (cN .u32) (.slice q (mag y.natAbs).length cap') (mag y.natAbs)) :: .cl b2 [.slice none 0 0, .bool false, .slice none 0 0] 102 :: As) ?_ ?_
      · refine Tri.dr (.take 0 (.take 1 (.take 3 (.take 4 (.all [(2, .all [(5, .all [(6, .all [(7, .all [(8, .all [(9, .done)])])]), (7, .all [(6, .all [(8, .all [(9, .done)])])])]), (6, .all [(5, .all [(7, .all [(8, .all [(9, .done)])])]), (7, .all [(5, .all [(8, .all [(9, .done)])])])]), (7, .all [(5, .all [(6, .all [(8, .all [(9, .done)])])]), (6, .all [(5, .all [(8, .all [(9, .done)])])])])]), (6, .all [(2, .all [(5, .all [(7, .all [(8, .all [(9, .done)])])]), (7, .all [(5, .all [(8, .all [(9, .done)])])])]), (7, .all [(2, .all [(5, .all [(8, .all [(9, .done)])])])])]), (7, .all [(2, .all [(5, .all [(6, .all [(8, .all [(9, .done)])])]), (6, .all [(5, .all [(8, .all [(9, .done)])])])]), (6, .all [(2, .all [(5, .all [(8, .all [(9, .done)])])])])])]))))) ?_
        (repeat' (first | (show TL _ _ _ _ (_ :: _) _ _ _; first | refine TL.sa ?_ | (refine TL.na ?_; intro _)) | (first | refine Stp.h ?_ | refine Post.then_normal ?_ | refine Post.next ?_ | refine Post.block_other rfl ?_) | (show TT _ _ _ _ _ _ _ _ _; refine TT.sa ?_) | exact TTs.nil | refine TTs.cons ?_ ?_ | (show T1 _ _ _ _ _ _ _ _ _ _; first | refine T1.sa ?_ | (refine T1.na ?_; intro _)) | (show TC _ _ _ _ _ _ _ _ _ _; first | refine TC.goa ?_ | refine TC.fina ?_) | refine Tri.ca ?_))
        iterate 2
          all_goals
            first
              | (refine T1.callv rfl rfl rfl rfl rfl (number_ok h1) ?_
                 rintro _ _ ⟨p, cap, rfl, rfl⟩)
              | (refine T1.callv rfl rfl rfl rfl rfl (number_ok h2) ?_
                 rintro _ _ ⟨q, cap', rfl, rfl⟩)
            (repeat' (first | (show TL _ _ _ _ (_ :: _) _ _ _; first | refine TL.sa ?_ | (refine TL.na ?_; intro _)) | (first | refine Stp.h ?_ | refine Post.then_normal ?_ | refine Post.next ?_ | refine Post.block_other rfl ?_) | (show TT _ _ _ _ _ _ _ _ _; refine TT.sa ?_) | exact TTs.nil | refine TTs.cons ?_ ?_ | (show T1 _ _ _ _ _ _ _ _ _ _; first | refine T1.sa ?_ | (refine T1.na ?_; intro _)) | (show TC _ _ _ _ _ _ _ _ _ _; first | refine TC.goa ?_ | refine TC.fina ?_) | refine Tri.ca ?_))
        all_goals exact Post.cut _ _ ⟨p, cap, q, cap', _, _, rfl, rfl⟩ (by (exact Sub.au)) (by (exact Ents.au))
      rintro _ _ ⟨p, cap, q, cap', b4, b5, rfl, rfl⟩
      (repeat' (first | (show TL _ _ _ _ (_ :: _) _ _ _; first | refine TL.sa ?_ | (refine TL.na ?_; intro _)) | (first | refine Stp.h ?_ | refine Post.then_normal ?_ | refine Post.next ?_ | refine Post.block_other rfl ?_) | (show TT _ _ _ _ _ _ _ _ _; refine TT.sa ?_) | exact TTs.nil | refine TTs.cons ?_ ?_ | (show T1 _ _ _ _ _ _ _ _ _ _; first | refine T1.sa ?_ | (refine T1.na ?_; intro _)) | (show TC _ _ _ _ _ _ _ _ _ _; first | refine TC.goa ?_ | refine TC.fina ?_) | refine Tri.ca ?_))
      refine TL.callv rfl rfl rfl rfl (sign_ok (v := .slice q (mag y.natAbs).length cap') (x := y)) ?_
      rintro _ _ ⟨rfl, rfl⟩
      by_cases hy : 0 < y
      · have hs : ¬ signI y < 1 := fun h => signI_lt1.1 h hy
        have hm1 : mag 1 = [1] := mag_single (by omega) (by omega)
        have lg : (mag (Nat.gcd x.natAbs y.natAbs)).length ≤ 600 := Nat.le_trans (mag_len_le (Nat.gcd_le_right _ (by omega))) ly
        (repeat' (first | (show TL _ _ _ _ (_ :: _) _ _ _; first | refine TL.sa ?_ | (refine TL.na ?_; intro _)) | (first | refine Stp.h ?_ | refine Post.then_normal ?_ | refine Post.next ?_ | refine Post.block_other rfl ?_) | (show TT _ _ _ _ _ _ _ _ _; refine TT.sa ?_) | exact TTs.nil | refine TTs.cons ?_ ?_ | (show T1 _ _ _ _ _ _ _ _ _ _; first | refine T1.sa ?_ | (refine T1.na ?_; intro _)) | (show TC _ _ _ _ _ _ _ _ _ _; first | refine TC.goa ?_ | refine TC.fina ?_) | refine Tri.ca ?_))
        refine TL.callv rfl rfl rfl rfl (gcd_ok (v := .slice p (mag x.natAbs).length cap) (o := .slice q (mag y.natAbs).length cap') (a := x.natAbs) (b := y.natAbs) (by omega) (by omega)) ?_
        rintro _ _ ⟨pg, cg, rfl, rfl⟩
        (repeat' (first | (show TL _ _ _ _ (_ :: _) _ _ _; first | refine TL.sa ?_ | (refine TL.na ?_; intro _)) | (first | refine Stp.h ?_ | refine Post.then_normal ?_ | refine Post.next ?_ | refine Post.block_other rfl ?_) | (show TT _ _ _ _ _ _ _ _ _; refine TT.sa ?_) | exact TTs.nil | refine TTs.cons ?_ ?_ | (show T1 _ _ _ _ _ _ _ _ _ _; first | refine T1.sa ?_ | (refine T1.na ?_; intro _)) | (show TC _ _ _ _ _ _ _ _ _ _; first | refine TC.goa ?_ | refine TC.fina ?_) | refine Tri.ca ?_))
        rename_i bl
        refine TL.ents (Ents.clW (cN .u32) (mag 1) (n := 1) (cap := 1) (by rw [hm1]; rfl) (by rw [hm1]; rfl) (by rw [hm1]; rfl)) ?_
        refine TL.callv rfl rfl rfl rfl (compare_ok (v := .slice pg (mag (Nat.gcd x.natAbs y.natAbs)).length cg) (o := .slice (some ⟨bl, 0, none⟩) 1 1) (a := Nat.gcd x.natAbs y.natAbs) (b := 1) (by omega) (by rw [hm1]; simp)) ?_
        rintro _ _ ⟨rfl, rfl⟩
        by_cases hg : Nat.gcd x.natAbs y.natAbs = 1
        · have hR : readF n d = some ⟨x, y.natAbs, by omega, hg⟩ := by unfold readF; rw [h1, h2]; exact dif_pos ⟨hy, hg⟩
          have hc0 : Lib.compareInt (Nat.gcd x.natAbs y.natAbs : Nat) (1 : Nat) = 0 := by rw [hg]; rfl
          rw [hR]
          (repeat' (first | (show TL _ _ _ _ (_ :: _) _ _ _; first | refine TL.sa ?_ | (refine TL.na ?_; intro _)) | (first | refine Stp.h ?_ | refine Post.then_normal ?_ | refine Post.next ?_ | refine Post.block_other rfl ?_) | refine Tri.ca ?_))
          (refine Post.ra ?_)
          exact ⟨_, ⟨p, cap, q, cap', rfl, rfl⟩, by (exact Ents.au)⟩
        · have hR : readF n d = none := by unfold readF; rw [h1, h2]; exact dif_neg fun h => hg h.2
          have hc0 : ¬ Lib.compareInt (Nat.gcd x.natAbs y.natAbs : Nat) (1 : Nat) = 0 := by unfold Lib.compareInt; split <;> (try split) <;> omega
          rw [hR]
          (repeat' (first | (show TL _ _ _ _ (_ :: _) _ _ _; first | refine TL.sa ?_ | (refine TL.na ?_; intro _)) | (first | refine Stp.h ?_ | refine Post.then_normal ?_ | refine Post.next ?_ | refine Post.block_other rfl ?_) | refine Tri.ca ?_))
          (refine Post.ra ?_)
          exact ⟨_, ⟨rfl, rfl⟩, by (exact Ents.au)⟩
      · have hs : signI y < 1 := signI_lt1.2 hy
        have hR : readF n d = none := by unfold readF; rw [h1, h2]; exact dif_neg fun h => hy h.1
        rw [hR]
        (repeat' (first | (show TL _ _ _ _ (_ :: _) _ _ _; first | refine TL.sa ?_ | (refine TL.na ?_; intro _)) | (first | refine Stp.h ?_ | refine Post.then_normal ?_ | refine Post.next ?_ | refine Post.block_other rfl ?_) | refine Tri.ca ?_))
        (refine Post.ra ?_)
        exact ⟨_, ⟨rfl, rfl⟩, by (exact Ents.au)⟩
theorem readF_ln {n d : List UInt8} {r : Rat} (h : readF n d = some r) : Ln 600 r := by
  obtain ⟨h1, h2⟩ := readF_num h
  refine ⟨readW_len h1, ?_⟩
  have := readW_len h2
  rwa [Int.natAbs_natCast] at this
/-- n / d in lowest terms -/
theorem reduced_ok {v o : Value} {n : Int} {d : Nat} [hf : FtIn As v Nat (cN .u32) (mag n.natAbs)] [hg : FtIn As o Nat (cN .u32) (mag d)] (hd : d ≠ 0) (ln : (mag n.natAbs).length ≤ 1000000) (ld : (mag d).length ≤ 1000000) :
    CallsS Tryz.prog w0 73 [.agg #[v, .bool (decide (n < 0))], o] As (RatR As (mkRat n d)) := by
  refine CallsS.rdSl v fun p1 c1 h1 => CallsS.rdSl o fun p2 c2 h2 => ?_
  subst h1 h2
  obtain ⟨e1, e2⟩ := rat_norm (n := n) hd
  obtain ⟨g, hg'⟩ : ∃ g, g = Nat.gcd n.natAbs d := ⟨_, rfl⟩
  rw [← hg'] at e1 e2
  have hg0 : g ≠ 0 := by rw [hg']; exact Nat.ne_of_gt (Nat.gcd_pos_of_pos_right _ (by omega))
  obtain ⟨e3, e4⟩ := exact_abs hg0 (show g ∣ n.natAbs by rw [hg']; exact Nat.gcd_dvd_left _ _)
  rw [← e1] at e3 e4
  have lg : (mag g).length ≤ 1000000 := Nat.le_trans (mag_len_le (by rw [hg']; exact Nat.gcd_le_right _ (by omega))) ld
  unfold RatR
  refine CallsS.of_tri Tryz.func73 rfl Tryz.ntmps73 rfl ?_
  (repeat' (first | (show TL _ _ _ _ (_ :: _) _ _ _; first | refine TL.sa ?_ | (refine TL.na ?_; intro _)) | (first | refine Stp.h ?_ | refine Post.then_normal ?_ | refine Post.next ?_ | refine Post.block_other rfl ?_) | refine Tri.ca ?_))
  refine TL.callv rfl rfl rfl rfl (gcd_ok (v := .slice p1 (mag n.natAbs).length c1) (o := .slice p2 (mag d).length c2) (a := n.natAbs) (b := d) (by omega) (by omega)) ?_
  rintro _ _ ⟨pg, cg, rfl, rfl⟩
  rw [← hg']
  (repeat' (first | (show TL _ _ _ _ (_ :: _) _ _ _; first | refine TL.sa ?_ | (refine TL.na ?_; intro _)) | (first | refine Stp.h ?_ | refine Post.then_normal ?_ | refine Post.next ?_ | refine Post.block_other rfl ?_) | refine Tri.ca ?_))
  refine TL.callv rfl rfl rfl rfl (divide_ok (v := .slice p1 (mag n.natAbs).length c1) (o := .slice pg (mag g).length cg) (a := n.natAbs) (b := g) hg0 (by omega) (by omega)) ?_
  rintro _ _ ⟨pa, ca, pa', ca', rfl, rfl⟩
  (repeat' (first | (show TL _ _ _ _ (_ :: _) _ _ _; first | refine TL.sa ?_ | (refine TL.na ?_; intro _)) | (first | refine Stp.h ?_ | refine Post.then_normal ?_ | refine Post.next ?_ | refine Post.block_other rfl ?_) | refine Tri.ca ?_))
  refine TL.callv rfl rfl rfl rfl (divide_ok (v := .slice p2 (mag d).length c2) (o := .slice pg (mag g).length cg) (a := d) (b := g) hg0 (by omega) (by omega)) ?_
  rintro _ _ ⟨pb, cb, pb', cb', rfl, rfl⟩
  (repeat' (first | (show TL _ _ _ _ (_ :: _) _ _ _; first | refine TL.sa ?_ | (refine TL.na ?_; intro _)) | (first | refine Stp.h ?_ | refine Post.then_normal ?_ | refine Post.next ?_ | refine Post.block_other rfl ?_) | refine Tri.ca ?_))
  refine TL.callv rfl rfl rfl rfl (signed_ok (v := .slice pa (mag (n.natAbs / g)).length ca) (n := n.natAbs / g)) ?_
  rintro _ _ ⟨rfl, rfl⟩
  (repeat' (first | (show TL _ _ _ _ (_ :: _) _ _ _; first | refine TL.sa ?_ | (refine TL.na ?_; intro _)) | (first | refine Stp.h ?_ | refine Post.then_normal ?_ | refine Post.next ?_ | refine Post.block_other rfl ?_) | refine Tri.ca ?_))
  (refine Post.ra ?_)
  refine ⟨_, ⟨pa, ca, pb, cb, ?_, rfl⟩, ?_⟩
  · rw [e3, e4, e2]; rfl
  · rw [e3, e2] <;> (exact Ents.au)
/-- operations on two fractions -/
def ApR (As : List Ent) (o : Option Rat) (u : Value) (Bs : List Ent) : Prop := match o with
  | some r => ∃ p cap q cap', u = .tuple #[.agg #[.slice p (mag r.num.natAbs).length cap, .bool (decide (r.num < 0)), .slice q (mag r.den).length cap'], .int .i64 0] ∧ Bs = .ft (rd (cN .u32) (.slice p (mag r.num.natAbs).length cap) (mag r.num.natAbs)) :: .ft (rd (cN .u32) (.slice q (mag r.den).length cap') (mag r.den)) :: As
  | none => u = .tuple #[.agg #[.slice none 0 0, .bool false, .slice none 0 0], .int .i64 20] ∧ Bs = As
def ap2 {α : Type} (F : Rat → Rat → α) (a b : Option Rat) : Option α := match a, b with
  | some x, some y => some (F x y)
  | _, _ => none
def OpR (w0 : World) (f : FuncId) (F : Rat → Rat → Rat) : Prop := ∀ (As : List Ent) (mv bv nv cv : Value) (x y : Rat) [FtIn As mv Nat (cN .u32) (mag x.num.natAbs)] [FtIn As bv Nat (cN .u32) (mag x.den)] [FtIn As nv Nat (cN .u32) (mag y.num.natAbs)] [FtIn As cv Nat (cN .u32) (mag y.den)], Ln 600 x → Ln 600 y →
  CallsS Tryz.prog w0 f [.agg #[mv, .bool (decide (x.num < 0)), bv], .agg #[nv, .bool (decide (y.num < 0)), cv]] As (RatR As (F x y))
theorem applyR_ok {f : FuncId} [Body Tryz.prog f] {F : Rat → Rat → Rat} (hf : OpR w0 f F) {a b c d : List UInt8} (ha : a.length ≤ 1000000000) (hb : b.length ≤ 1000000000) (hc : c.length ≤ 1000000000) (hd : d.length ≤ 1000000000) :
    CallsS Tryz.prog w0 77 [.agg #[.string ⟨a.toArray⟩, .string ⟨b.toArray⟩], .agg #[.string ⟨c.toArray⟩, .string ⟨d.toArray⟩], .func (.func f) #[] #[]] As (ApR As (ap2 F (readF a b) (readF c d))) := by
  refine CallsS.of_tri Tryz.func77 rfl Tryz.ntmps77 rfl ?_
  (repeat' (first | (show TL _ _ _ _ (_ :: _) _ _ _; first | refine TL.sa ?_ | (refine TL.na ?_; intro _)) | (first | refine Stp.h ?_ | refine Post.then_normal ?_ | refine Post.next ?_ | refine Post.block_other rfl ?_) | refine Tri.ca ?_))
  refine TL.call rfl rfl rfl (read_ok ha hb) ?_
  intro _ _ h1
  cases hx : readF a b with
  | none =>
    rw [hx] at h1
    obtain ⟨rfl, rfl⟩ := h1
    (repeat' (first | (show TL _ _ _ _ (_ :: _) _ _ _; first | refine TL.sa ?_ | (refine TL.na ?_; intro _)) | (first | refine Stp.h ?_ | refine Post.then_normal ?_ | refine Post.next ?_ | refine Post.block_other rfl ?_) | refine Tri.ca ?_))
    refine TL.call rfl rfl rfl (read_ok hc hd) ?_
    intro _ _ h2
    cases hy : readF c d with
    | none =>
      rw [hy] at h2
      obtain ⟨rfl, rfl⟩ := h2
      (repeat' (first | (show TL _ _ _ _ (_ :: _) _ _ _; first | refine TL.sa ?_ | (refine TL.na ?_; intro _)) | (first | refine Stp.h ?_ | refine Post.then_normal ?_ | refine Post.next ?_ | refine Post.block_other rfl ?_) | refine Tri.ca ?_))
      (refine Post.ra ?_)
      exact ⟨_, ⟨rfl, rfl⟩, by (exact Ents.au)⟩
    | some y =>
      rw [hy] at h2
      obtain ⟨q1, k1, q2, k2, rfl, rfl⟩ := h2
      (repeat' (first | (show TL _ _ _ _ (_ :: _) _ _ _; first | refine TL.sa ?_ | (refine TL.na ?_; intro _)) | (first | refine Stp.h ?_ | refine Post.then_normal ?_ | refine Post.next ?_ | refine Post.block_other rfl ?_) | refine Tri.ca ?_))
      (refine Post.ra ?_)
      exact ⟨_, ⟨rfl, rfl⟩, by (exact Ents.au)⟩
  | some x =>
    rw [hx] at h1
    obtain ⟨p1, c1, p2, c2, rfl, rfl⟩ := h1
    (repeat' (first | (show TL _ _ _ _ (_ :: _) _ _ _; first | refine TL.sa ?_ | (refine TL.na ?_; intro _)) | (first | refine Stp.h ?_ | refine Post.then_normal ?_ | refine Post.next ?_ | refine Post.block_other rfl ?_) | refine Tri.ca ?_))
    refine TL.call rfl rfl rfl (read_ok hc hd) ?_
    intro _ _ h2
    cases hy : readF c d with
    | none =>
      rw [hy] at h2
      obtain ⟨rfl, rfl⟩ := h2
      (repeat' (first | (show TL _ _ _ _ (_ :: _) _ _ _; first | refine TL.sa ?_ | (refine TL.na ?_; intro _)) | (first | refine Stp.h ?_ | refine Post.then_normal ?_ | refine Post.next ?_ | refine Post.block_other rfl ?_) | refine Tri.ca ?_))
      (refine Post.ra ?_)
      exact ⟨_, ⟨rfl, rfl⟩, by (exact Ents.au)⟩
    | some y =>
      rw [hy] at h2
      obtain ⟨q1, k1, q2, k2, rfl, rfl⟩ := h2
      (repeat' (first | (show TL _ _ _ _ (_ :: _) _ _ _; first | refine TL.sa ?_ | (refine TL.na ?_; intro _)) | (first | refine Stp.h ?_ | refine Post.then_normal ?_ | refine Post.next ?_ | refine Post.block_other rfl ?_) | refine Tri.ca ?_))
      refine TL.callv rfl rfl rfl rfl (hf _ (.slice p1 (mag x.num.natAbs).length c1) (.slice p2 (mag x.den).length c2) (.slice q1 (mag y.num.natAbs).length k1) (.slice q2 (mag y.den).length k2) x y (readF_ln hx) (readF_ln hy)) ?_
      rintro _ _ ⟨p5, c5, p6, c6, rfl, rfl⟩
      (repeat' (first | (show TL _ _ _ _ (_ :: _) _ _ _; first | refine TL.sa ?_ | (refine TL.na ?_; intro _)) | (first | refine Stp.h ?_ | refine Post.then_normal ?_ | refine Post.next ?_ | refine Post.block_other rfl ?_) | refine Tri.ca ?_))
      (refine Post.ra ?_)
      exact ⟨_, ⟨p5, c5, p6, c6, rfl, rfl⟩, by (exact Ents.au)⟩
theorem applyI_ok {a b c d : List UInt8} (ha : a.length ≤ 1000000000) (hb : b.length ≤ 1000000000) (hc : c.length ≤ 1000000000) (hd : d.length ≤ 1000000000) :
    CallsS Tryz.prog w0 93 [.agg #[.string ⟨a.toArray⟩, .string ⟨b.toArray⟩], .agg #[.string ⟨c.toArray⟩, .string ⟨d.toArray⟩], .func (.func 94) #[] #[]] As
      fun u Bs => u = .tuple #[.int .i64 ((ap2 ordQ (readF a b) (readF c d)).getD 0), .int .i64 (if (ap2 ordQ (readF a b) (readF c d)).isSome then 0 else 20)] ∧ Bs = As := by
  refine CallsS.of_tri Tryz.func93 rfl Tryz.ntmps93 rfl ?_
  (repeat' (first | (show TL _ _ _ _ (_ :: _) _ _ _; first | refine TL.sa ?_ | (refine TL.na ?_; intro _)) | (first | refine Stp.h ?_ | refine Post.then_normal ?_ | refine Post.next ?_ | refine Post.block_other rfl ?_) | refine Tri.ca ?_))
  refine TL.call rfl rfl rfl (read_ok ha hb) ?_
  intro _ _ h1
  cases hx : readF a b with
  | none =>
    rw [hx] at h1
    obtain ⟨rfl, rfl⟩ := h1
    (repeat' (first | (show TL _ _ _ _ (_ :: _) _ _ _; first | refine TL.sa ?_ | (refine TL.na ?_; intro _)) | (first | refine Stp.h ?_ | refine Post.then_normal ?_ | refine Post.next ?_ | refine Post.block_other rfl ?_) | refine Tri.ca ?_))
    refine TL.call rfl rfl rfl (read_ok hc hd) ?_
    intro _ _ h2
    cases hy : readF c d with
    | none =>
      rw [hy] at h2
      obtain ⟨rfl, rfl⟩ := h2
      (repeat' (first | (show TL _ _ _ _ (_ :: _) _ _ _; first | refine TL.sa ?_ | (refine TL.na ?_; intro _)) | (first | refine Stp.h ?_ | refine Post.then_normal ?_ | refine Post.next ?_ | refine Post.block_other rfl ?_) | refine Tri.ca ?_))
      (refine Post.ra ?_)
      exact ⟨_, ⟨rfl, rfl⟩, by (exact Ents.au)⟩
    | some y =>
      rw [hy] at h2
      obtain ⟨q1, k1, q2, k2, rfl, rfl⟩ := h2
      (repeat' (first | (show TL _ _ _ _ (_ :: _) _ _ _; first | refine TL.sa ?_ | (refine TL.na ?_; intro _)) | (first | refine Stp.h ?_ | refine Post.then_normal ?_ | refine Post.next ?_ | refine Post.block_other rfl ?_) | refine Tri.ca ?_))
      (refine Post.ra ?_)
      exact ⟨_, ⟨rfl, rfl⟩, by (exact Ents.au)⟩
  | some x =>
    rw [hx] at h1
    obtain ⟨p1, c1, p2, c2, rfl, rfl⟩ := h1
    (repeat' (first | (show TL _ _ _ _ (_ :: _) _ _ _; first | refine TL.sa ?_ | (refine TL.na ?_; intro _)) | (first | refine Stp.h ?_ | refine Post.then_normal ?_ | refine Post.next ?_ | refine Post.block_other rfl ?_) | refine Tri.ca ?_))
    refine TL.call rfl rfl rfl (read_ok hc hd) ?_
    intro _ _ h2
    cases hy : readF c d with
    | none =>
      rw [hy] at h2
      obtain ⟨rfl, rfl⟩ := h2
      (repeat' (first | (show TL _ _ _ _ (_ :: _) _ _ _; first | refine TL.sa ?_ | (refine TL.na ?_; intro _)) | (first | refine Stp.h ?_ | refine Post.then_normal ?_ | refine Post.next ?_ | refine Post.block_other rfl ?_) | refine Tri.ca ?_))
      (refine Post.ra ?_)
      exact ⟨_, ⟨rfl, rfl⟩, by (exact Ents.au)⟩
    | some y =>
      rw [hy] at h2
      obtain ⟨q1, k1, q2, k2, rfl, rfl⟩ := h2
      (repeat' (first | (show TL _ _ _ _ (_ :: _) _ _ _; first | refine TL.sa ?_ | (refine TL.na ?_; intro _)) | (first | refine Stp.h ?_ | refine Post.then_normal ?_ | refine Post.next ?_ | refine Post.block_other rfl ?_) | refine Tri.ca ?_))
      refine TL.callv rfl rfl rfl rfl (order_ok (mv := .slice p1 (mag x.num.natAbs).length c1) (bv := .slice p2 (mag x.den).length c2) (nv := .slice q1 (mag y.num.natAbs).length k1) (cv := .slice q2 (mag y.den).length k2) (x := x) (y := y) ((readF_ln hx).mono (by omega)) ((readF_ln hy).mono (by omega))) ?_
      rintro _ _ ⟨rfl, rfl⟩
      (repeat' (first | (show TL _ _ _ _ (_ :: _) _ _ _; first | refine TL.sa ?_ | (refine TL.na ?_; intro _)) | (first | refine Stp.h ?_ | refine Post.then_normal ?_ | refine Post.next ?_ | refine Post.block_other rfl ?_) | refine Tri.ca ?_))
      (refine Post.ra ?_)
      exact ⟨_, ⟨rfl, rfl⟩, by (exact Ents.au)⟩
/-- the result of an operation, or its error -/
def outO (o : Option Rat) : List UInt8 × List UInt8 × Int := match o with
  | some r => outF r
  | none => ([], [], 20)
theorem resultE_ok : CallsS Tryz.prog w0 76 [.agg #[.slice none 0 0, .bool false, .slice none 0 0], .int .i64 20] As fun u Bs => u = .tuple #[.agg #[.string ⟨([] : List UInt8).toArray⟩, .string ⟨([] : List UInt8).toArray⟩], .int .i64 20] ∧ Bs = As := by
  refine CallsS.of_tri Tryz.func76 rfl Tryz.ntmps76 rfl ?_
  (repeat' (first | (show TL _ _ _ _ (_ :: _) _ _ _; first | refine TL.sa ?_ | (refine TL.na ?_; intro _)) | (first | refine Stp.h ?_ | refine Post.then_normal ?_ | refine Post.next ?_ | refine Post.block_other rfl ?_) | refine Tri.ca ?_))
  (refine Post.ra ?_)
  exact ⟨_, ⟨rfl, rfl⟩, by (exact Ents.au)⟩
theorem resultS_ok (ht : Tab w0) {mv bv : Value} {x : Rat} [hm : RdIn As mv Nat (cN .u32) (mag x.num.natAbs)] [hb : RdIn As bv Nat (cN .u32) (mag x.den)] (hx : Ln 1000000 x) :
    CallsS Tryz.prog w0 76 [.agg #[mv, .bool (decide (x.num < 0)), bv], .int .i64 0] As fun u Bs => u = .tuple #[.agg #[.string ⟨(outF x).1.toArray⟩, .string ⟨(outF x).2.1.toArray⟩], .int .i64 (outF x).2.2] ∧ Bs = As := by
  refine CallsS.rdSl mv fun p1 c1 h1 => CallsS.rdSl bv fun p2 c2 h2 => ?_
  subst h1 h2
  refine CallsS.of_tri Tryz.func76 rfl Tryz.ntmps76 rfl ?_
  (repeat' (first | (show TL _ _ _ _ (_ :: _) _ _ _; first | refine TL.sa ?_ | (refine TL.na ?_; intro _)) | (first | refine Stp.h ?_ | refine Post.then_normal ?_ | refine Post.next ?_ | refine Post.block_other rfl ?_) | refine Tri.ca ?_))
  refine TL.callv rfl rfl rfl rfl (write_ok ht (mv := .slice p1 (mag x.num.natAbs).length c1) (bv := .slice p2 (mag x.den).length c2) (x := x) hx) ?_
  rintro _ _ ⟨rfl, rfl⟩
  (repeat' (first | (show TL _ _ _ _ (_ :: _) _ _ _; first | refine TL.sa ?_ | (refine TL.na ?_; intro _)) | (first | refine Stp.h ?_ | refine Post.then_normal ?_ | refine Post.next ?_ | refine Post.block_other rfl ?_) | refine Tri.ca ?_))
  (refine Post.ra ?_)
  exact ⟨_, ⟨rfl, rfl⟩, by (exact Ents.au)⟩
end Go.Proofs.YtldljckhfcoafaaGreatDoor.Q
