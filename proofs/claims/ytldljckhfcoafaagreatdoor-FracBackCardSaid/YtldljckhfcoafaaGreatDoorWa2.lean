/- Walks: magnitudes: zero, trim, the decimal digits, the text. -/
import Derived.Test.YtldljckhfcoafaaGreatDoorWa1
namespace Go.Proofs.YtldljckhfcoafaaGreatDoor
open Go Go.Sx
variable {w0 : World} {As : List Ent}
instance : ElC Tryz.prog 66 Nat (cN .u32) 0 4 := ⟨by obtain ⟨i, h1, h2, h3, h4⟩ := (inferInstance : TI Tryz.prog 66 _ _ _).info; exact ⟨i, _, h1, h2, h3, h4, rfl⟩, by decide⟩
/-- a magnitude comes back -/
def MagR (As : List Ent) (n : Nat) (v : Value) (Bs : List Ent) : Prop := ∃ p cap, v = .slice p (mag n).length cap ∧ Bs = .ft (rd (cN .u32) v (mag n)) :: As
theorem magR_of {f : FuncId} {args : List Value} {n : Nat} (h : CallsS Tryz.prog w0 f args As fun v Bs => Bs = .ft (rd (cN .u32) v (mag n)) :: As) : CallsS Tryz.prog w0 f args As (MagR As n) :=
  (CallsS.slc (cd := cN .u32) (xs := mag n) h fun v Bs h => by rw [h]; infer_instance).mono fun _ _ ⟨p, cap, h1, h2⟩ => ⟨p, cap, h1, h2⟩
theorem zero_ok {v : Value} {n : Nat} [RdIn As v Nat (cN .u32) (mag n)] : CallsS Tryz.prog w0 152 [v] As fun u Bs => u = .bool (decide (n = 0)) ∧ Bs = As := by
  refine CallsS.of_tri Tryz.func152 rfl Tryz.ntmps152 rfl ?_
  (repeat' (first | (show TL _ _ _ _ (_ :: _) _ _ _; first | refine TL.sa ?_ | (refine TL.na ?_; intro _)) | (first | refine Stp.h ?_ | refine Post.then_normal ?_ | refine Post.next ?_ | refine Post.block_other rfl ?_) | refine Tri.ca ?_))
  (refine Post.ra ?_)
  refine ⟨_, ⟨?_, rfl⟩, by (exact Ents.au)⟩
  congr 1
  rw [Bool.eq_iff_iff, decide_eq_true_eq, decide_eq_true_eq, ← mag_len0]
  omega
theorem trim_ok {v : Value} {xs : List Nat} [hf : FtIn As v Nat (cN .u32) xs] (hs : ∀ d ∈ xs, d < 1000000000) (hl : xs.length ≤ 1000000000) : CallsS Tryz.prog w0 182 [v] As (MagR As (valB xs)) := by
  refine magR_of ?_
  rw [← trimL_mag hs]
  refine CallsS.of_tri Tryz.func182 rfl Tryz.ntmps182 rfl ?_
  (repeat' (first | (show TL _ _ _ _ (_ :: _) _ _ _; first | refine TL.sa ?_ | (refine TL.na ?_; intro _)) | (first | refine Stp.h ?_ | refine Post.then_normal ?_ | refine Post.next ?_ | refine Post.block_other rfl ?_) | refine Tri.ca ?_))
  refine Tri.loop (ι := Value × List Nat) (fun s => s.2.length ≤ 1000000000 ∧ trimL s.2 = trimL xs) (fun s => s.2.length)
    (fun s => [(0, s.1)]) (fun s => .ft (rd (cN .u32) s.1 s.2) :: As) (v, xs) ⟨hl, rfl⟩ (by (exact Sub.au)) Ents.dup ?_
  rintro ⟨v', ys⟩ ⟨hyl, hy⟩
  simp only at hyl hy
  rcases List.eq_nil_or_concat ys with rfl | ⟨zs, d, rfl⟩
  · show Tri _ _ _ _ [(0, v')] (.ft (rd (cN .u32) v' []) :: As) _
    (repeat' (first | (show TL _ _ _ _ (_ :: _) _ _ _; first | refine TL.sa ?_ | (refine TL.na ?_; intro _)) | (first | refine Stp.h ?_ | refine Post.then_normal ?_ | refine Post.next ?_ | refine Post.block_other rfl ?_) | refine Tri.ca ?_))
    (refine Post.ra ?_)
    exact ⟨_, rfl, by rw [← hy]; exact Ents.au (Bs := .ft (rd (cN .u32) v' []) :: As)⟩
  · rw [List.concat_eq_append] at hyl hy ⊢
    have hz : (zs ++ [d]).length = zs.length + 1 := by simp
    have hd : (zs ++ [d])[(zs ++ [d]).length - 1]? = some d := by rw [hz]; simp
    have hdr : ((zs ++ [d]).drop 0).take ((zs ++ [d]).length - 1 - 0) = zs := by rw [hz]; simp
    show Tri _ _ _ _ [(0, v')] (.ft (rd (cN .u32) v' (zs ++ [d])) :: As) _
    (repeat' (first | (show TL _ _ _ _ (_ :: _) _ _ _; first | refine TL.sa ?_ | (refine TL.na ?_; intro _)) | (first | refine Stp.h ?_ | refine Post.then_normal ?_ | refine Post.next ?_ | refine Post.block_other rfl ?_) | refine Tri.ca ?_))
    ((show Tri _ _ _ (.cond _ _ _) _ _ _; first | refine Tri.condP rfl (fun hc => ?_) (fun hc => ?_) | refine Tri.condN rfl (fun hc => ?_) (fun hc => ?_)))
    · have hd0 : d = 0 := by omega
      subst hd0
      (repeat' (first | (show TL _ _ _ _ (_ :: _) _ _ _; first | refine TL.sa ?_ | (refine TL.na ?_; intro _)) | (first | refine Stp.h ?_ | refine Post.then_normal ?_ | refine Post.next ?_ | refine Post.block_other rfl ?_) | refine Tri.ca ?_))
      rw [hdr]
      exact Post.round (subV 1 v' 0 ((zs ++ [0]).length - 1), zs) ⟨by simp only; omega, by rw [← hy, trimL_zero]⟩ (by simp only; omega) (by (exact Sub.au)) (by (exact Ents.au))
    · (repeat' (first | (show TL _ _ _ _ (_ :: _) _ _ _; first | refine TL.sa ?_ | (refine TL.na ?_; intro _)) | (first | refine Stp.h ?_ | refine Post.then_normal ?_ | refine Post.next ?_ | refine Post.block_other rfl ?_) | refine Tri.ca ?_))
      (refine Post.ra ?_)
      exact ⟨_, by rw [← hy, trimL_snoc (by omega)], by (exact Ents.au)⟩
theorem of_ok {v : Value} {n : Nat} {b : Bool} [hr : RdIn As v Nat (cN .u32) (mag n)] : CallsS Tryz.prog w0 106 [v, .bool b] As fun u Bs => u = .agg #[v, .bool (b && decide (n ≠ 0))] ∧ Bs = As := by
  refine CallsS.rdSl v fun p cap hv => ?_
  subst hv
  refine CallsS.of_tri Tryz.func106 rfl Tryz.ntmps106 rfl ?_
  cases b
  · (repeat' (first | (show TL _ _ _ _ (_ :: _) _ _ _; first | refine TL.sa ?_ | (refine TL.na ?_; intro _)) | (first | refine Stp.h ?_ | refine Post.then_normal ?_ | refine Post.next ?_ | refine Post.block_other rfl ?_) | refine Tri.ca ?_))
    (refine Post.ra ?_)
    exact ⟨_, ⟨rfl, rfl⟩, by (exact Ents.au)⟩
  · (repeat' (first | (show TL _ _ _ _ (_ :: _) _ _ _; first | refine TL.sa ?_ | (refine TL.na ?_; intro _)) | (first | refine Stp.h ?_ | refine Post.then_normal ?_ | refine Post.next ?_ | refine Post.block_other rfl ?_) | refine Tri.ca ?_))
    refine TL.call rfl rfl rfl zero_ok ?_
    rintro _ As ⟨rfl, rfl⟩
    (repeat' (first | (show TL _ _ _ _ (_ :: _) _ _ _; first | refine TL.sa ?_ | (refine TL.na ?_; intro _)) | (first | refine Stp.h ?_ | refine Post.then_normal ?_ | refine Post.next ?_ | refine Post.block_other rfl ?_) | refine Tri.ca ?_))
    (refine Post.ra ?_)
    exact ⟨_, ⟨by simp, rfl⟩, by (exact Ents.au)⟩
end Go.Proofs.YtldljckhfcoafaaGreatDoor
