/- Walks: whole numbers: the operations of the layer. Walks: whole numbers: the functions of the layer. Walks: whole numbers: quotients, powers, roots, integers. Walks: whole numbers: quotients. -/
import Derived.Test.YtgapnfaakdjpaaaGreatDoorWb1
import Derived.Test.YtgapnfaakdjpaaaGreatDoorPl
import Derived.Below
namespace Go.Sx
open Go
theorem St.below {w0 w w' : World} {As : List Ent} (h : St w0 w As) (hb : RowKit.Below w.heap.size w w') : St w0 w' As := by
  obtain ⟨H, bs, g⟩ := h
  refine ⟨H, bs, Nat.le_trans g.size hb.size, hb.os.trans g.os, hb.tape.trans g.tape, hb.output.trans g.output, fun b o hbo => ?_, g.old, Sat.move (FH.le_refl H) g.sat fun b hm => hb.block b (g.sat.lt b hm), g.nd, g.ap⟩
  have h1 := g.fz b o hbo
  rw [hb.block b (Array.getElem?_eq_some_iff.1 h1).1]; exact h1
end Go.Sx
namespace Go.Proofs.YtgapnfaakdjpaaaGreatDoor
open Go Go.Sx
variable {w0 : World} {As : List Ent}
theorem opposite_ok {v : Value} {x : Int} [hf : RdIn As v Nat (cN .u32) (mag x.natAbs)] : CallsS Tryz.prog w0 206 [.agg #[v, .bool (decide (x < 0))]] As fun u Bs => u = .agg #[v, .bool (decide (-x < 0))] ∧ Bs = As := by
  refine CallsS.rdSl v fun pv cv hv => ?_
  subst hv
  refine CallsS.of_tri Tryz.func206 rfl Tryz.ntmps206 rfl ?_
  have e1 : (!decide (x < 0) && decide (x.natAbs ≠ 0)) = decide (-x < 0) := by
    rw [Bool.eq_iff_iff]
    simp only [Bool.and_eq_true, Bool.not_eq_true', decide_eq_false_iff_not, decide_eq_true_eq]
    omega
  (repeat' first | (refine Ka ?_; first | refine Kb ?_ | (refine Kc ?_; intro _)) | refine Kd ?_ | refine Ke ?_ | refine Kf ?_ | refine Kg rfl ?_ | refine Kh ?_)
  refine TL.call rfl rfl rfl (of_ok (n := x.natAbs)) ?_
  rintro _ As ⟨rfl, rfl⟩
  rw [e1]
  (repeat' first | (refine Ka ?_; first | refine Kb ?_ | (refine Kc ?_; intro _)) | refine Kd ?_ | refine Ke ?_ | refine Kf ?_ | refine Kg rfl ?_ | refine Kh ?_)
  (refine Post.ra ?_)
  exact ⟨_, ⟨rfl, rfl⟩, by (exact Ents.au)⟩
end Go.Proofs.YtgapnfaakdjpaaaGreatDoor
namespace Go.Proofs.YtgapnfaakdjpaaaGreatDoor
open Go Go.Sx
variable {w0 : World} {As : List Ent}
theorem check_okW {s : List UInt8} (hs : s.length ≤ 1000000000) : CallsS Tryz.prog w0 165 [.string ⟨s.toArray⟩] As fun u Bs => u = .int .i64 (checkW s) ∧ Bs = As := by
  refine CallsS.of_tri Tryz.func165 rfl Tryz.ntmps165 rfl ?_
  (repeat' first | (refine Ka ?_; first | refine Kb ?_ | (refine Kc ?_; intro _)) | refine Kd ?_ | refine Ke ?_ | refine Kf ?_ | refine Kg rfl ?_ | (refine Ki ?_; refine Kj ?_) | exact Kk | refine Kl ?_ ?_ | (refine Km ?_; first | refine Kn ?_ | (refine Ko ?_; intro _)) | (refine Kp ?_; first | refine Kq ?_ | refine Kr ?_) | refine Kh ?_)
  refine TL.call rfl rfl rfl (read_ok hs) ?_
  rintro _ _ ⟨p, cap, rfl, rfl⟩
  unfold checkW
  cases h1 : readW s with
  | none =>
    (repeat' first | (refine Ka ?_; first | refine Kb ?_ | (refine Kc ?_; intro _)) | refine Kd ?_ | refine Ke ?_ | refine Kf ?_ | refine Kg rfl ?_ | (refine Ki ?_; refine Kj ?_) | exact Kk | refine Kl ?_ ?_ | (refine Km ?_; first | refine Kn ?_ | (refine Ko ?_; intro _)) | (refine Kp ?_; first | refine Kq ?_ | refine Kr ?_) | refine Kh ?_)
    (refine Post.ra ?_)
    exact ⟨_, ⟨rfl, rfl⟩, by (exact Ents.au)⟩
  | some x =>
    (repeat' first | (refine Ka ?_; first | refine Kb ?_ | (refine Kc ?_; intro _)) | refine Kd ?_ | refine Ke ?_ | refine Kf ?_ | refine Kg rfl ?_ | (refine Ki ?_; refine Kj ?_) | exact Kk | refine Kl ?_ ?_ | (refine Km ?_; first | refine Kn ?_ | (refine Ko ?_; intro _)) | (refine Kp ?_; first | refine Kq ?_ | refine Kr ?_) | refine Kh ?_)
    (refine Post.ra ?_)
    exact ⟨_, ⟨rfl, rfl⟩, by (exact Ents.au)⟩
end Go.Proofs.YtgapnfaakdjpaaaGreatDoor
namespace Go.Proofs.YtgapnfaakdjpaaaGreatDoor
open Go Go.Sx
variable {w0 : World} {As : List Ent}
instance : IfT Tryz.prog 304 := ⟨_, Tryz.underlying304⟩
end Go.Proofs.YtgapnfaakdjpaaaGreatDoor
namespace Go.Sx
open Go
end Go.Sx
namespace Go.Proofs.YtgapnfaakdjpaaaGreatDoor
open Go Go.Sx
variable {w0 : World} {As : List Ent}
end Go.Proofs.YtgapnfaakdjpaaaGreatDoor
