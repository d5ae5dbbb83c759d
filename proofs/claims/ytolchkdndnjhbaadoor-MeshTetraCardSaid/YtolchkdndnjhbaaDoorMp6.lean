/- Meshes, plain: the sixfold volume. -/
import Derived.Test.YtolchkdndnjhbaaDoorMp5
import Derived.Test.YtolchkdndnjhbaaDoorWp2
namespace Go.Sx
open Go
/-- what a face gives -/
def faceV (pts : List V3) (f : V3) : Int := (ptAt pts f.x).dot ((ptAt pts f.y).cross (ptAt pts f.z))
def volM (pts fcs : List V3) : Int := fcs.foldl (fun s f => s + faceV pts f) 0
theorem ptAt_in {n : Int} (hn : 0 ≤ n) {pts : List V3} (h : ∀ p ∈ pts, p.in n) (i : Int) : (ptAt pts i).in n := by
  unfold ptAt
  cases hp : pts[i.toNat]? with
  | none =>
    refine ⟨?_, ?_, ?_, ?_, ?_, ?_⟩ <;> simp [V3.zero] <;> omega
  | some p => exact h p (List.mem_of_getElem? hp)
theorem dot_in {m n : Int} (hm : 0 ≤ m) (hn : 0 ≤ n) {a b : V3} (h : a.in m) (k : b.in n) : -(3 * (m * n)) ≤ a.dot b ∧ a.dot b ≤ 3 * (m * n) := by
  obtain ⟨h1, h2, h3, h4, h5, h6⟩ := h
  obtain ⟨k1, k2, k3, k4, k5, k6⟩ := k
  have a1 := mul_in hm hn h1 h2 k1 k2
  have a2 := mul_in hm hn h3 h4 k3 k4
  have a3 := mul_in hm hn h5 h6 k5 k6
  simp only [V3.dot]
  omega
theorem faceV_in {pts : List V3} (h : ∀ p ∈ pts, p.in 200000) (f : V3) : -48000000000000000 ≤ faceV pts f ∧ faceV pts f ≤ 48000000000000000 := by
  have := dot_in (by decide) (by decide) (ptAt_in (by decide) h f.x) (cross_in (by decide) (by decide) (ptAt_in (by decide) h f.y) (ptAt_in (by decide) h f.z))
  unfold faceV
  omega
theorem volTake_in {pts : List V3} (h : ∀ p ∈ pts, p.in 200000) (fcs : List V3) : ∀ k : Nat, -(48000000000000000 * (k : Int)) ≤ volM pts (fcs.take k) ∧ volM pts (fcs.take k) ≤ 48000000000000000 * (k : Int)
  | 0 => by simp [volM]
  | k + 1 => by
    have ih := volTake_in h fcs k
    cases hf : fcs[k]? with
    | none =>
      have h1 : fcs.take (k + 1) = fcs.take k := by
        have := List.getElem?_eq_none_iff.1 hf
        rw [List.take_of_length_le (by omega), List.take_of_length_le (by omega)]
      rw [h1]; omega
    | some f =>
      have h1 : volM pts (fcs.take (k + 1)) = volM pts (fcs.take k) + faceV pts f := by
        unfold volM; rw [take_succ_foldl hf]
      have h2 := faceV_in h f
      rw [h1]; omega
end Go.Sx
