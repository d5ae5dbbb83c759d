/- Walks: the reference on whole numbers: comparisons, integers, the functions that compare with the layer's. Walks: the reference on whole numbers: integers, signs, comparisons. -/
import Derived.Test.YtldljckhfcoafaaGreatDoorVb1
namespace Go.Sx
open Go
end Go.Sx
namespace Go.Proofs.YtldljckhfcoafaaGreatDoor
open Go Go.Sx
variable {w0 : World} {As : List Ent}
theorem turnR_ok {v : Value} {x : Int} [hf : FtIn As v Nat (cN .i64) (qud x.natAbs)] (ha : (qud x.natAbs).length ≤ 100000000) :
    CallsS Tryz.prog w0 118 [.agg #[.bool (decide (x < 0)), v]] As (PlainR As (-x)) := by
  refine CallsS.rdSl v fun pv cv hv => ?_
  subst hv
  have e1 : (-x).natAbs = valQ (qud x.natAbs) := by rw [valQ_qud, Int.natAbs_neg]
  have e2 : decide (-x < 0) = (!decide (x < 0) && decide (valQ (qud x.natAbs) ≠ 0)) := by
    rw [valQ_qud, Bool.eq_iff_iff]
    simp only [Bool.and_eq_true, Bool.not_eq_true', decide_eq_false_iff_not, decide_eq_true_eq]
    omega
  refine CallsS.of_tri Tryz.func118 rfl Tryz.ntmps118 rfl ?_
  (repeat' (first | (show TL _ _ _ _ (_ :: _) _ _ _; first | refine TL.sa ?_ | (refine TL.na ?_; intro _)) | (first | refine Stp.h ?_ | refine Post.then_normal ?_ | refine Post.next ?_ | refine Post.block_other rfl ?_) | refine Tri.ca ?_))
  refine TL.call rfl rfl rfl (made_ok (xs := qud x.natAbs) (z := -x) (qud_small _) (by omega) e1 e2) ?_
  rintro _ _ ⟨p, cap, rfl, rfl⟩
  (repeat' (first | (show TL _ _ _ _ (_ :: _) _ _ _; first | refine TL.sa ?_ | (refine TL.na ?_; intro _)) | (first | refine Stp.h ?_ | refine Post.then_normal ?_ | refine Post.next ?_ | refine Post.block_other rfl ?_) | refine Tri.ca ?_))
  (refine Post.ra ?_)
  exact ⟨_, ⟨p, cap, rfl, rfl⟩, by (exact Ents.au)⟩
theorem minusR_ok {v o : Value} {x y : Int} [hf : RdIn As v Nat (cN .i64) (qud x.natAbs)] [hg : FtIn As o Nat (cN .i64) (qud y.natAbs)] (ha : (qud x.natAbs).length ≤ 10000000) (hb : (qud y.natAbs).length ≤ 10000000) :
    CallsS Tryz.prog w0 121 [.agg #[.bool (decide (x < 0)), v], .agg #[.bool (decide (y < 0)), o]] As (PlainR As (x - y)) := by
  refine CallsS.rdSl v fun pv cv hv => CallsS.rdSl o fun po co ho => ?_
  subst hv ho
  refine CallsS.of_tri Tryz.func121 rfl Tryz.ntmps121 rfl ?_
  (repeat' (first | (show TL _ _ _ _ (_ :: _) _ _ _; first | refine TL.sa ?_ | (refine TL.na ?_; intro _)) | (first | refine Stp.h ?_ | refine Post.then_normal ?_ | refine Post.next ?_ | refine Post.block_other rfl ?_) | refine Tri.ca ?_))
  refine Tri.dr (.take 0 (.take 1 (.all [(2, .all [(3, .all [(4, .done)])])]))) ?_
  (repeat' (first | (show TL _ _ _ _ (_ :: _) _ _ _; first | refine TL.sa ?_ | (refine TL.na ?_; intro _)) | (first | refine Stp.h ?_ | refine Post.then_normal ?_ | refine Post.next ?_ | refine Post.block_other rfl ?_) | (show TT _ _ _ _ _ _ _ _ _; refine TT.sa ?_) | exact TTs.nil | refine TTs.cons ?_ ?_ | (show T1 _ _ _ _ _ _ _ _ _ _; first | refine T1.sa ?_ | (refine T1.na ?_; intro _)) | (show TC _ _ _ _ _ _ _ _ _ _; first | refine TC.goa ?_ | refine TC.fina ?_) | refine Tri.ca ?_))
  refine T1.call rfl rfl rfl rfl (turnR_ok (x := y) (by omega)) ?_
  rintro _ _ ⟨p, cap, rfl, rfl⟩
  (repeat' (first | (show TL _ _ _ _ (_ :: _) _ _ _; first | refine TL.sa ?_ | (refine TL.na ?_; intro _)) | (first | refine Stp.h ?_ | refine Post.then_normal ?_ | refine Post.next ?_ | refine Post.block_other rfl ?_) | (show TT _ _ _ _ _ _ _ _ _; refine TT.sa ?_) | exact TTs.nil | refine TTs.cons ?_ ?_ | (show T1 _ _ _ _ _ _ _ _ _ _; first | refine T1.sa ?_ | (refine T1.na ?_; intro _)) | (show TC _ _ _ _ _ _ _ _ _ _; first | refine TC.goa ?_ | refine TC.fina ?_) | refine Tri.ca ?_))
  refine T1.call rfl rfl rfl rfl (plusR_ok (x := x) (y := -y) (by omega) (by rw [Int.natAbs_neg]; omega)) ?_
  rintro _ _ ⟨p', cap', rfl, rfl⟩
  rw [← Int.sub_eq_add_neg]
  (repeat' (first | (show TL _ _ _ _ (_ :: _) _ _ _; first | refine TL.sa ?_ | (refine TL.na ?_; intro _)) | (first | refine Stp.h ?_ | refine Post.then_normal ?_ | refine Post.next ?_ | refine Post.block_other rfl ?_) | (show TT _ _ _ _ _ _ _ _ _; refine TT.sa ?_) | exact TTs.nil | refine TTs.cons ?_ ?_ | (show T1 _ _ _ _ _ _ _ _ _ _; first | refine T1.sa ?_ | (refine T1.na ?_; intro _)) | (show TC _ _ _ _ _ _ _ _ _ _; first | refine TC.goa ?_ | refine TC.fina ?_) | refine Tri.ca ?_))
  (refine Post.ra ?_)
  exact ⟨_, ⟨p', cap', rfl, rfl⟩, by (exact Ents.au)⟩
end Go.Proofs.YtldljckhfcoafaaGreatDoor
namespace Go.Proofs.YtldljckhfcoafaaGreatDoor
open Go Go.Sx
variable {w0 : World} {As : List Ent}
end Go.Proofs.YtldljckhfcoafaaGreatDoor
