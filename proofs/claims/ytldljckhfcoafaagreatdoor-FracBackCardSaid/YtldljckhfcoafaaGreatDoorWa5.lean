/- Walks: sums of magnitudes. Walks: differences of magnitudes, sums of numbers with a sign. Walks: sums of whole numbers. -/
import Derived.Test.YtldljckhfcoafaaGreatDoorWa4
import Derived.Test.YtldljckhfcoafaaGreatDoorPl
namespace Go.Proofs.YtldljckhfcoafaaGreatDoor
open Go Go.Sx
variable {w0 : World} {As : List Ent}
theorem compareU_ok {x y : Int} : CallsS Tryz.prog w0 156 [.int .u32 x, .int .u32 y] As fun u Bs => u = .int .i64 (Lib.compareInt x y) ∧ Bs = As := by
  refine CallsS.of_tri Tryz.func156 rfl Tryz.ntmps156 rfl ?_
  have hnan : ∀ {z : Int} {As : List Ent}, CallsS Tryz.prog w0 185 [.int .u32 z] As fun u Bs => u = .bool (!decide (z = z)) ∧ Bs = As := fun {z As} => by
    refine CallsS.of_tri Tryz.func185 rfl Tryz.ntmps185 rfl ?_
    (repeat' (first | (show TL _ _ _ _ (_ :: _) _ _ _; first | refine TL.sa ?_ | (refine TL.na ?_; intro _)) | (first | refine Stp.h ?_ | refine Post.then_normal ?_ | refine Post.next ?_ | refine Post.block_other rfl ?_) | refine Tri.ca ?_))
    (refine Post.ra ?_)
    exact ⟨_, ⟨rfl, rfl⟩, by (exact Ents.au)⟩
  (repeat' (first | (show TL _ _ _ _ (_ :: _) _ _ _; first | refine TL.sa ?_ | (refine TL.na ?_; intro _)) | (first | refine Stp.h ?_ | refine Post.then_normal ?_ | refine Post.next ?_ | refine Post.block_other rfl ?_) | refine Tri.ca ?_))
  refine TL.call rfl rfl rfl hnan ?_
  rintro _ As ⟨rfl, rfl⟩
  (repeat' (first | (show TL _ _ _ _ (_ :: _) _ _ _; first | refine TL.sa ?_ | (refine TL.na ?_; intro _)) | (first | refine Stp.h ?_ | refine Post.then_normal ?_ | refine Post.next ?_ | refine Post.block_other rfl ?_) | refine Tri.ca ?_))
  refine TL.call rfl rfl rfl hnan ?_
  rintro _ As ⟨rfl, rfl⟩
  have h1 : (!decide (x = x)) = false := by simp
  have h2 : (!decide (y = y)) = false := by simp
  rw [h1, h2]
  (repeat' (first | ((show TL _ _ _ _ (_ :: _) _ _ _; first | refine TL.fa ?_ | refine TL.ua ?_ | (refine TL.rba ?_; intro _) | (refine TL.rra ?_; first | rintro _ _ ⟨rfl, rfl⟩ | rintro _ _ rfl) | refine TL.offa ?_ | refine TL.off0a ?_ | refine TL.gu ?_ | fail)) | (first | refine Stp.h ?_ | refine Post.then_normal ?_ | refine Post.next ?_ | refine Post.block_other rfl ?_) | ((show Tri _ _ _ (.cond _ _ _) _ _ _; first | refine Tri.cTa ?_ | refine Tri.cFa ?_ | refine Tri.condTa ?_ | refine Tri.condFa ?_ | refine Tri.condNTa ?_ | refine Tri.condNFa ?_ | fail)) | (first | refine TL.gsplit rfl rfl (fun hgs => ?_) (fun hgs => ?_) | refine TL.gsplitN rfl rfl (fun hgs => ?_) (fun hgs => ?_) | refine TT.gsplit rfl rfl rfl (fun hgs => ?_) (fun hgs => ?_) | refine TT.gsplitN rfl rfl rfl (fun hgs => ?_) (fun hgs => ?_)) | ((show Tri _ _ _ (.cond _ _ _) _ _ _; first | refine Tri.condP rfl (fun hc => ?_) (fun hc => ?_) | refine Tri.condN rfl (fun hc => ?_) (fun hc => ?_)))))
  · (refine Post.ra ?_)
    exact ⟨_, ⟨by rw [Lib.compareInt, if_pos (by assumption)], rfl⟩, by (exact Ents.au)⟩
  · (refine Post.ra ?_)
    exact ⟨_, ⟨by rw [Lib.compareInt, if_neg (by omega), if_pos (by omega)], rfl⟩, by (exact Ents.au)⟩
  · (refine Post.ra ?_)
    exact ⟨_, ⟨by rw [Lib.compareInt, if_neg (by omega), if_neg (by omega)], rfl⟩, by (exact Ents.au)⟩
end Go.Proofs.YtldljckhfcoafaaGreatDoor
namespace Go.Proofs.YtldljckhfcoafaaGreatDoor
open Go Go.Sx
variable {w0 : World} {As : List Ent}
end Go.Proofs.YtldljckhfcoafaaGreatDoor
namespace Go.Proofs.YtldljckhfcoafaaGreatDoor
open Go Go.Sx
variable {w0 : World} {As : List Ent}
/-- a number with its sign comes back -/
def SgnR (As : List Ent) (z : Int) (u : Value) (Bs : List Ent) : Prop := ∃ p cap, u = .agg #[.slice p (mag z.natAbs).length cap, .bool (decide (z < 0))] ∧ Bs = .ft (rd (cN .u32) (.slice p (mag z.natAbs).length cap) (mag z.natAbs)) :: As
theorem sgnR_of {n : Nat} {b : Bool} {z : Int} {p : Option Addr} {cap : Nat} (h1 : z.natAbs = n) (h2 : decide (z < 0) = (b && decide (n ≠ 0))) :
    SgnR As z (.agg #[.slice p (mag n).length cap, .bool (b && decide (n ≠ 0))]) (.ft (rd (cN .u32) (.slice p (mag n).length cap) (mag n)) :: As) := ⟨p, cap, by rw [h1, h2], by rw [h1]⟩
theorem cmp_lt {a b : Nat} : Lib.compareInt a b < 0 ↔ a < b := by
  unfold Lib.compareInt
  split
  · simp; omega
  · split <;> simp <;> omega
/-- two texts are read -/
def PairR (As : List Ent) (r s : Option Int) (u : Value) (Bs : List Ent) : Prop := ∃ p cap q cap', u = (if r.isSome ∧ s.isSome then .tuple #[.agg #[.slice p (mag (r.getD 0).natAbs).length cap, .bool (decide (r.getD 0 < 0))], .agg #[.slice q (mag (s.getD 0).natAbs).length cap', .bool (decide (s.getD 0 < 0))], .int .i64 0] else .tuple #[.agg #[.slice none 0 0, .bool false], .agg #[.slice none 0 0, .bool false], .int .i64 10]) ∧
  Bs = .ft (rd (cN .u32) (.slice q (mag (s.getD 0).natAbs).length cap') (mag (s.getD 0).natAbs)) :: .ft (rd (cN .u32) (.slice p (mag (r.getD 0).natAbs).length cap) (mag (r.getD 0).natAbs)) :: As
/-- the text of a sum; or the error -/
def addW (s t : List UInt8) : List UInt8 × Int := match readW s, readW t with
  | some x, some y => outW (x + y)
  | _, _ => ([], 10)
theorem ofInt_ok (ht : Tab w0) {n : Int} (h0 : -9223372036854775808 ≤ n) (h1 : n ≤ 9223372036854775807) : CallsS Tryz.prog w0 101 [.int .i64 n] As fun u Bs => u = .string ⟨(textI n).toArray⟩ ∧ Bs = As := by
  refine CallsS.of_tri Tryz.func101 rfl Tryz.ntmps101 rfl ?_
  (repeat' (first | (show TL _ _ _ _ (_ :: _) _ _ _; first | refine TL.sa ?_ | (refine TL.na ?_; intro _)) | (first | refine Stp.h ?_ | refine Post.then_normal ?_ | refine Post.next ?_ | refine Post.block_other rfl ?_) | refine Tri.ca ?_))
  refine TL.call rfl rfl rfl (itoa_ok ht h0 h1) ?_
  rintro _ _ ⟨rfl, rfl⟩
  (repeat' (first | (show TL _ _ _ _ (_ :: _) _ _ _; first | refine TL.sa ?_ | (refine TL.na ?_; intro _)) | (first | refine Stp.h ?_ | refine Post.then_normal ?_ | refine Post.next ?_ | refine Post.block_other rfl ?_) | refine Tri.ca ?_))
  (refine Post.ra ?_)
  exact ⟨_, ⟨rfl, rfl⟩, by (exact Ents.au)⟩
end Go.Proofs.YtldljckhfcoafaaGreatDoor
