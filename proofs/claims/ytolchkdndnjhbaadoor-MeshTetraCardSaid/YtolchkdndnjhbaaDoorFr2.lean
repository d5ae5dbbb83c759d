/- What an argument that reads as data holds: integers, arrays of integers. -/
import Derived.Test.YtolchkdndnjhbaaDoorFr1
namespace Go.Sx
open Go Go.ChangeShapes Go.WideShapes Go.ChangeAt Go.RowKit
variable {H : Type} {enc : TypeId × Value → H} {P : Program} {w : World} {base : Nat} {spare : Nat → Bool} {held : Bool}
/-- all cells are integers of this kind -/
def AllK (k : IntKind) (cs : List Value) : Prop := ∀ v ∈ cs, ∃ z, v = .int k z ∧ (Lit.int k z).wf = true
theorem allK_int {e : TypeId} {k : IntKind} (hu : P.underlying e = some (.int k)) {fuel : Nat} {cs : List Value} {x : DataW H × List MemPlace} (h : DataW.trod enc P w base spare held fuel e cs = some x) : AllK k cs := by
  obtain ⟨n, rfl, _, hw⟩ := DataW.trod_int hu h
  intro v hv
  rw [List.mem_singleton.1 hv]
  exact ⟨n, rfl, hw⟩
theorem allK_arr {t e : TypeId} {n : Nat} {k : IntKind} (ht : P.underlying t = some (.array n e)) (hc : P.cellsOf t = n * P.cellsOf e)
    (he : ∀ (fuel : Nat) (cs : List Value) (x : DataW H × List MemPlace), DataW.trod enc P w base spare held fuel e cs = some x → AllK k cs)
    {fuel : Nat} {cs : List Value} {x : DataW H × List MemPlace} (h : DataW.trod enc P w base spare held fuel t cs = some x) : AllK k cs := by
  obtain ⟨xs, m, rfl, rfl, hl, hxl, hall⟩ := DataW.trod_array ht h
  intro v hv
  obtain ⟨i, hi⟩ := List.mem_iff_getElem?.1 hv
  have hil : i < cs.length := (List.getElem?_eq_some_iff.1 hi).1
  rw [hl, hc] at hil
  have hpos : 0 < P.cellsOf e := by
    rcases Nat.eq_zero_or_pos (P.cellsOf e) with h0 | h0
    · rw [h0] at hil; omega
    · exact h0
  have hq : i / P.cellsOf e < n := (Nat.div_lt_iff_lt_mul hpos).2 hil
  have h1 := hall _ hq
  rw [List.getElem?_eq_getElem (by omega)] at h1
  refine he _ _ _ h1 v (List.mem_iff_getElem?.2 ⟨i % P.cellsOf e, ?_⟩)
  rw [List.getElem?_take_of_lt (Nat.mod_lt _ hpos), List.getElem?_drop, Nat.div_add_mod']
  exact hi
theorem okWide_array {r : Reach} {b0 : Nat} {t e : TypeId} {n : Nat} {v : Value} (ht : P.underlying t = some (.array n e)) (h : Value.okWide P w r b0 t v) : ∃ cs : List Value, v = .agg cs.toArray ∧ cs.length = P.cellsOf t := by
  simp only [Value.okWide, ht] at h
  obtain ⟨cs, rfl, h2, _⟩ := h
  exact ⟨cs.toList, by simp, by simpa using h2⟩
theorem wf_i32 {n : Int} (h : (Lit.int .i32 n).wf = true) : -2147483648 ≤ n ∧ n ≤ 2147483647 := by
  simpa [Lit.wf, IntKind.min, IntKind.max, IntKind.signed, IntKind.bits] using h
theorem list12 {l : List Value} (h : l.length = 12) : ∃ a0 a1 a2 a3 a4 a5 a6 a7 a8 a9 a10 a11, l = [a0, a1, a2, a3, a4, a5, a6, a7, a8, a9, a10, a11] := by
  match l, h with
  | [a0, a1, a2, a3, a4, a5, a6, a7, a8, a9, a10, a11], _ => exact ⟨_, _, _, _, _, _, _, _, _, _, _, _, rfl⟩
end Go.Sx
