/- Walks: the reference on whole numbers: comparisons, integers, the functions that compare with the layer's. Walks: the reference on whole numbers: integers, signs, comparisons. -/
import Derived.Test.YtgapnfaakdjpaaaGreatDoorVb1
namespace Go.Sx
open Go
end Go.Sx
namespace Go.Proofs.YtgapnfaakdjpaaaGreatDoor
open Go Go.Sx
variable {w0 : World} {As : List Ent}
theorem turnR_ok {v : Value} {x : Int} [hf : FtIn As v Nat (cN .i64) (qud x.natAbs)] (ha : (qud x.natAbs).length ≤ 100000000) :
    CallsS Tryz.prog w0 139 [.agg #[.bool (decide (x < 0)), v]] As (PlainR As (-x)) := by
  refine CallsS.rdSl v fun pv cv hv => ?_
  subst hv
  have e1 : (-x).natAbs = valQ (qud x.natAbs) := by rw [valQ_qud, Int.natAbs_neg]
  have e2 : decide (-x < 0) = (!decide (x < 0) && decide (valQ (qud x.natAbs) ≠ 0)) := by
    rw [valQ_qud, Bool.eq_iff_iff]
    simp only [Bool.and_eq_true, Bool.not_eq_true', decide_eq_false_iff_not, decide_eq_true_eq]
    omega
  refine CallsS.of_tri Tryz.func139 rfl Tryz.ntmps139 rfl ?_
  (repeat' first | (refine Ka ?_; first | refine Kb ?_ | (refine Kc ?_; intro _)) | refine Kd ?_ | refine Ke ?_ | refine Kf ?_ | refine Kg rfl ?_ | refine Kh ?_)
  refine TL.call rfl rfl rfl (made_ok (xs := qud x.natAbs) (z := -x) (qud_small _) (by omega) e1 e2) ?_
  rintro _ _ ⟨p, cap, rfl, rfl⟩
  (repeat' first | (refine Ka ?_; first | refine Kb ?_ | (refine Kc ?_; intro _)) | refine Kd ?_ | refine Ke ?_ | refine Kf ?_ | refine Kg rfl ?_ | refine Kh ?_)
  (refine Post.ra ?_)
  exact ⟨_, ⟨p, cap, rfl, rfl⟩, by (exact Ents.au)⟩
theorem minusR_ok {v o : Value} {x y : Int} [hf : RdIn As v Nat (cN .i64) (qud x.natAbs)] [hg : FtIn As o Nat (cN .i64) (qud y.natAbs)] (ha : (qud x.natAbs).length ≤ 10000000) (hb : (qud y.natAbs).length ≤ 10000000) :
    CallsS Tryz.prog w0 144 [.agg #[.bool (decide (x < 0)), v], .agg #[.bool (decide (y < 0)), o]] As (PlainR As (x - y)) := by
  refine CallsS.rdSl v fun pv cv hv => CallsS.rdSl o fun po co ho => ?_
  subst hv ho
  refine CallsS.of_tri Tryz.func144 rfl Tryz.ntmps144 rfl ?_
  (repeat' first | (refine Ka ?_; first | refine Kb ?_ | (refine Kc ?_; intro _)) | refine Kd ?_ | refine Ke ?_ | refine Kf ?_ | refine Kg rfl ?_ | refine Kh ?_)
  refine Tri.dr (.take 0 (.take 1 (.all [(2, .all [(3, .all [(4, .done)])])]))) ?_
  (repeat' first | (refine Ka ?_; first | refine Kb ?_ | (refine Kc ?_; intro _)) | refine Kd ?_ | refine Ke ?_ | refine Kf ?_ | refine Kg rfl ?_ | (refine Ki ?_; refine Kj ?_) | exact Kk | refine Kl ?_ ?_ | (refine Km ?_; first | refine Kn ?_ | (refine Ko ?_; intro _)) | (refine Kp ?_; first | refine Kq ?_ | refine Kr ?_) | refine Kh ?_)
  refine T1.call rfl rfl rfl rfl (turnR_ok (x := y) (by omega)) ?_
  rintro _ _ ⟨p, cap, rfl, rfl⟩
  (repeat' first | (refine Ka ?_; first | refine Kb ?_ | (refine Kc ?_; intro _)) | refine Kd ?_ | refine Ke ?_ | refine Kf ?_ | refine Kg rfl ?_ | (refine Ki ?_; refine Kj ?_) | exact Kk | refine Kl ?_ ?_ | (refine Km ?_; first | refine Kn ?_ | (refine Ko ?_; intro _)) | (refine Kp ?_; first | refine Kq ?_ | refine Kr ?_) | refine Kh ?_)
  refine T1.call rfl rfl rfl rfl (plusR_ok (x := x) (y := -y) (by omega) (by rw [Int.natAbs_neg]; omega)) ?_
  rintro _ _ ⟨p', cap', rfl, rfl⟩
  rw [← Int.sub_eq_add_neg]
  (repeat' first | (refine Ka ?_; first | refine Kb ?_ | (refine Kc ?_; intro _)) | refine Kd ?_ | refine Ke ?_ | refine Kf ?_ | refine Kg rfl ?_ | (refine Ki ?_; refine Kj ?_) | exact Kk | refine Kl ?_ ?_ | (refine Km ?_; first | refine Kn ?_ | (refine Ko ?_; intro _)) | (refine Kp ?_; first | refine Kq ?_ | refine Kr ?_) | refine Kh ?_)
  (refine Post.ra ?_)
  exact ⟨_, ⟨p', cap', rfl, rfl⟩, by (exact Ents.au)⟩
end Go.Proofs.YtgapnfaakdjpaaaGreatDoor
namespace Go.Proofs.YtgapnfaakdjpaaaGreatDoor
open Go Go.Sx
variable {w0 : World} {As : List Ent}
end Go.Proofs.YtgapnfaakdjpaaaGreatDoor
