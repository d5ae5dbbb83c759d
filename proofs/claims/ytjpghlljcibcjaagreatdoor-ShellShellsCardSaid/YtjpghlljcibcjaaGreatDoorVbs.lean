/- Walks: the reference on whole numbers: signs. -/
import Derived.Test.YtjpghlljcibcjaaGreatDoorVa1
import Derived.Test.YtjpghlljcibcjaaGreatDoorPl
namespace Go.Proofs.YtjpghlljcibcjaaGreatDoor
open Go Go.Sx
variable {w0 : World} {As : List Ent}
theorem readW_qud {s : List UInt8} {z : Int} (h : readW s = some z) : (qud z.natAbs).length ≤ 1000 := qud_len_600 (readW_lt h)
theorem turnR_ok {v : Value} {x : Int} [hf : FtIn As v Nat (cN .i64) (qud x.natAbs)] (ha : (qud x.natAbs).length ≤ 100000000) :
    CallsS Tryz.prog w0 111 [.agg #[.bool (decide (x < 0)), v]] As (PlainR As (-x)) := by
  refine CallsS.rdSl v fun pv cv hv => ?_
  subst hv
  have e1 : (-x).natAbs = valQ (qud x.natAbs) := by rw [valQ_qud, Int.natAbs_neg]
  have e2 : decide (-x < 0) = (!decide (x < 0) && decide (valQ (qud x.natAbs) ≠ 0)) := by
    rw [valQ_qud, Bool.eq_iff_iff]
    simp only [Bool.and_eq_true, Bool.not_eq_true', decide_eq_false_iff_not, decide_eq_true_eq]
    omega
  refine CallsS.of_tri Tryz.func111 rfl Tryz.ntmps111 rfl ?_
  (repeat' (first | (show TL _ _ _ _ (_ :: _) _ _ _; first | refine TL.sa ?_ | (refine TL.na ?_; intro _)) | (first | refine Stp.h ?_ | refine Post.then_normal ?_ | refine Post.next ?_ | refine Post.block_other rfl ?_) | refine Tri.ca ?_))
  refine TL.call rfl rfl rfl (made_ok (xs := qud x.natAbs) (z := -x) (qud_small _) (by omega) e1 e2) ?_
  rintro _ _ ⟨p, cap, rfl, rfl⟩
  (repeat' (first | (show TL _ _ _ _ (_ :: _) _ _ _; first | refine TL.sa ?_ | (refine TL.na ?_; intro _)) | (first | refine Stp.h ?_ | refine Post.then_normal ?_ | refine Post.next ?_ | refine Post.block_other rfl ?_) | refine Tri.ca ?_))
  (refine Post.ra ?_)
  exact ⟨_, ⟨p, cap, rfl, rfl⟩, by (exact Ents.au)⟩
theorem vminusR_ok {v o : Value} {x y : Int} [hf : RdIn As v Nat (cN .i64) (qud x.natAbs)] [hg : FtIn As o Nat (cN .i64) (qud y.natAbs)] (ha : (qud x.natAbs).length ≤ 10000000) (hb : (qud y.natAbs).length ≤ 10000000) :
    CallsS Tryz.prog w0 88 [.agg #[.bool (decide (x < 0)), v], .agg #[.bool (decide (y < 0)), o]] As (PlainR As (x - y)) := by
  refine CallsS.rdSl v fun pv cv hv => CallsS.rdSl o fun po co ho => ?_
  subst hv ho
  refine CallsS.of_tri Tryz.func88 rfl Tryz.ntmps88 rfl ?_
  (repeat' (first | (show TL _ _ _ _ (_ :: _) _ _ _; first | refine TL.sa ?_ | (refine TL.na ?_; intro _)) | (first | refine Stp.h ?_ | refine Post.then_normal ?_ | refine Post.next ?_ | refine Post.block_other rfl ?_) | refine Tri.ca ?_))
  refine Tri.dr (.take 0 (.take 1 (.all [(2, .all [(3, .all [(4, .done)])])]))) ?_
  (repeat' (first | (show TL _ _ _ _ (_ :: _) _ _ _; first | refine TL.sa ?_ | (refine TL.na ?_; intro _)) | (first | refine Stp.h ?_ | refine Post.then_normal ?_ | refine Post.next ?_ | refine Post.block_other rfl ?_) | (show TT _ _ _ _ _ _ _ _ _; refine TT.sa ?_) | exact TTs.nil | refine TTs.cons ?_ ?_ | (show T1 _ _ _ _ _ _ _ _ _ _; first | refine T1.sa ?_ | (refine T1.na ?_; intro _)) | (show TC _ _ _ _ _ _ _ _ _ _; first | refine TC.goa ?_ | refine TC.fina ?_) | refine Tri.ca ?_))
  refine T1.call rfl rfl rfl rfl (turnR_ok (x := y) (by omega)) ?_
  rintro _ _ ⟨p, cap, rfl, rfl⟩
  (repeat' (first | (show TL _ _ _ _ (_ :: _) _ _ _; first | refine TL.sa ?_ | (refine TL.na ?_; intro _)) | (first | refine Stp.h ?_ | refine Post.then_normal ?_ | refine Post.next ?_ | refine Post.block_other rfl ?_) | (show TT _ _ _ _ _ _ _ _ _; refine TT.sa ?_) | exact TTs.nil | refine TTs.cons ?_ ?_ | (show T1 _ _ _ _ _ _ _ _ _ _; first | refine T1.sa ?_ | (refine T1.na ?_; intro _)) | (show TC _ _ _ _ _ _ _ _ _ _; first | refine TC.goa ?_ | refine TC.fina ?_) | refine Tri.ca ?_))
  refine T1.call rfl rfl rfl rfl (plusR_ok (x := x) (y := -y) (by omega) (by rw [Int.natAbs_neg]; omega)) ?_
  rintro _ _ ⟨p', cap', rfl, rfl⟩
  rw [← Int.sub_eq_add_neg]
  (repeat' (first | (show TL _ _ _ _ (_ :: _) _ _ _; first | refine TL.sa ?_ | (refine TL.na ?_; intro _)) | (first | refine Stp.h ?_ | refine Post.then_normal ?_ | refine Post.next ?_ | refine Post.block_other rfl ?_) | (show TT _ _ _ _ _ _ _ _ _; refine TT.sa ?_) | exact TTs.nil | refine TTs.cons ?_ ?_ | (show T1 _ _ _ _ _ _ _ _ _ _; first | refine T1.sa ?_ | (refine T1.na ?_; intro _)) | (show TC _ _ _ _ _ _ _ _ _ _; first | refine TC.goa ?_ | refine TC.fina ?_) | refine Tri.ca ?_))
  (refine Post.ra ?_)
  exact ⟨_, ⟨p', cap', rfl, rfl⟩, by (exact Ents.au)⟩
theorem orderP_ok {v o : Value} {x y : Int} [hf : RdIn As v Nat (cN .i64) (qud x.natAbs)] [hg : FtIn As o Nat (cN .i64) (qud y.natAbs)] (ha : (qud x.natAbs).length ≤ 10000000) (hb : (qud y.natAbs).length ≤ 10000000) :
    CallsS Tryz.prog w0 69 [.agg #[.bool (decide (x < 0)), v], .agg #[.bool (decide (y < 0)), o]] As fun u Bs => u = .int .i64 (signI (x - y)) ∧ Bs = As := by
  refine CallsS.rdSl v fun pv cv hv => CallsS.rdSl o fun po co ho => ?_
  subst hv ho
  refine CallsS.of_tri Tryz.func69 rfl Tryz.ntmps69 rfl ?_
  (repeat' (first | (show TL _ _ _ _ (_ :: _) _ _ _; first | refine TL.sa ?_ | (refine TL.na ?_; intro _)) | (first | refine Stp.h ?_ | refine Post.then_normal ?_ | refine Post.next ?_ | refine Post.block_other rfl ?_) | (show TT _ _ _ _ _ _ _ _ _; refine TT.sa ?_) | exact TTs.nil | refine TTs.cons ?_ ?_ | (show T1 _ _ _ _ _ _ _ _ _ _; first | refine T1.sa ?_ | (refine T1.na ?_; intro _)) | (show TC _ _ _ _ _ _ _ _ _ _; first | refine TC.goa ?_ | refine TC.fina ?_) | refine Tri.ca ?_))
  refine TL.call rfl rfl rfl (vminusR_ok (x := x) (y := y) ha hb) ?_
  rintro _ _ ⟨p, cap, rfl, rfl⟩
  generalize x - y = z
  have hl0 := qud_len0 (n := z.natAbs)
  by_cases hz : z < 0
  · (repeat' (first | (show TL _ _ _ _ (_ :: _) _ _ _; first | refine TL.sa ?_ | (refine TL.na ?_; intro _)) | (first | refine Stp.h ?_ | refine Post.then_normal ?_ | refine Post.next ?_ | refine Post.block_other rfl ?_) | (show TT _ _ _ _ _ _ _ _ _; refine TT.sa ?_) | exact TTs.nil | refine TTs.cons ?_ ?_ | (show T1 _ _ _ _ _ _ _ _ _ _; first | refine T1.sa ?_ | (refine T1.na ?_; intro _)) | (show TC _ _ _ _ _ _ _ _ _ _; first | refine TC.goa ?_ | refine TC.fina ?_) | refine Tri.ca ?_))
    (refine Post.ra ?_)
    exact ⟨_, ⟨by rw [signI, if_pos hz], rfl⟩, by (exact Ents.au)⟩
  · by_cases hz0 : z = 0
    · have hq : (qud z.natAbs).length = 0 := hl0.2 (by omega)
      (repeat' (first | (show TL _ _ _ _ (_ :: _) _ _ _; first | refine TL.sa ?_ | (refine TL.na ?_; intro _)) | (first | refine Stp.h ?_ | refine Post.then_normal ?_ | refine Post.next ?_ | refine Post.block_other rfl ?_) | refine Tri.ca ?_))
      (refine Post.ra ?_)
      exact ⟨_, ⟨by rw [signI, if_neg hz, if_pos hz0], rfl⟩, by (exact Ents.au)⟩
    · have hq : (qud z.natAbs).length ≠ 0 := fun h => hz0 (by have := hl0.1 h; omega)
      (repeat' (first | (show TL _ _ _ _ (_ :: _) _ _ _; first | refine TL.sa ?_ | (refine TL.na ?_; intro _)) | (first | refine Stp.h ?_ | refine Post.then_normal ?_ | refine Post.next ?_ | refine Post.block_other rfl ?_) | refine Tri.ca ?_))
      (refine Post.ra ?_)
      exact ⟨_, ⟨by rw [signI, if_neg hz, if_neg hz0], rfl⟩, by (exact Ents.au)⟩
theorem signR_ok {s : List UInt8} (hs : s.length ≤ 1000000000) : CallsS Tryz.prog w0 39 [.string ⟨s.toArray⟩] As fun u Bs => u = .tuple #[.int .i64 (signW s).1, .int .i64 (signW s).2] ∧ Bs = As := by
  refine CallsS.of_tri Tryz.func39 rfl Tryz.ntmps39 rfl ?_
  (repeat' (first | (show TL _ _ _ _ (_ :: _) _ _ _; first | refine TL.sa ?_ | (refine TL.na ?_; intro _)) | (first | refine Stp.h ?_ | refine Post.then_normal ?_ | refine Post.next ?_ | refine Post.block_other rfl ?_) | refine Tri.ca ?_))
  refine TL.call rfl rfl rfl (rightR_ok hs) ?_
  rintro _ _ ⟨rfl, rfl⟩
  unfold signW
  cases h1 : readW s with
  | none =>
    (repeat' (first | (show TL _ _ _ _ (_ :: _) _ _ _; first | refine TL.sa ?_ | (refine TL.na ?_; intro _)) | (first | refine Stp.h ?_ | refine Post.then_normal ?_ | refine Post.next ?_ | refine Post.block_other rfl ?_) | refine Tri.ca ?_))
    (refine Post.ra ?_)
    exact ⟨_, ⟨rfl, rfl⟩, by (exact Ents.au)⟩
  | some x =>
    rw [Option.isSome_some]
    have hxq := readW_qud h1
    have l0 : (qud (0 : Int).natAbs).length ≤ 1 := qud_len_lt (by decide)
    (repeat' (first | (show TL _ _ _ _ (_ :: _) _ _ _; first | refine TL.sa ?_ | (refine TL.na ?_; intro _)) | (first | refine Stp.h ?_ | refine Post.then_normal ?_ | refine Post.next ?_ | refine Post.block_other rfl ?_) | refine Tri.ca ?_))
    refine TL.call rfl rfl rfl (inR_ok h1) ?_
    rintro _ _ ⟨p, cap, rfl, rfl⟩
    (repeat' (first | (show TL _ _ _ _ (_ :: _) _ _ _; first | refine TL.sa ?_ | (refine TL.na ?_; intro _)) | (first | refine Stp.h ?_ | refine Post.then_normal ?_ | refine Post.next ?_ | refine Post.block_other rfl ?_) | refine Tri.ca ?_))
    refine TL.call rfl rfl rfl (integerR_ok (n := 0) (by decide) (by decide)) ?_
    rintro _ _ ⟨p1, cap1, rfl, rfl⟩
    (repeat' (first | (show TL _ _ _ _ (_ :: _) _ _ _; first | refine TL.sa ?_ | (refine TL.na ?_; intro _)) | (first | refine Stp.h ?_ | refine Post.then_normal ?_ | refine Post.next ?_ | refine Post.block_other rfl ?_) | refine Tri.ca ?_))
    refine TL.call rfl rfl rfl (orderP_ok (x := x) (y := 0) (by omega) (by omega)) ?_
    rintro _ _ ⟨rfl, rfl⟩
    rw [Int.sub_zero]
    (repeat' (first | (show TL _ _ _ _ (_ :: _) _ _ _; first | refine TL.sa ?_ | (refine TL.na ?_; intro _)) | (first | refine Stp.h ?_ | refine Post.then_normal ?_ | refine Post.next ?_ | refine Post.block_other rfl ?_) | refine Tri.ca ?_))
    (refine Post.ra ?_)
    exact ⟨_, ⟨rfl, rfl⟩, by (exact Ents.au)⟩
end Go.Proofs.YtjpghlljcibcjaaGreatDoor
