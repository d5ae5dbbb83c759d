/- What the arguments of the laws on shells hold. -/
import Derived.Test.YtjpghlljcibcjaaGreatDoorFr
import Derived.Test.YtjpghlljcibcjaaGreatDoorTy
namespace Go.Proofs.YtjpghlljcibcjaaGreatDoor
open Go Go.Sx Go.ChangeShapes Go.WideShapes Go.ChangeAt Go.RowKit
variable {H : Type} {enc : TypeId × Value → H} {W : World}
theorem listS3 {α : Type} {l : List α} (h : l.length = 3) : ∃ a b c, l = [a, b, c] := by
  match l, h with
  | [a, b, c], _ => exact ⟨_, _, _, rfl⟩
theorem wfS_u8 {n : Int} (h : (Lit.int .u8 n).wf = true) : 0 ≤ n ∧ n ≤ 255 := by
  simpa [Lit.wf, IntKind.min, IntKind.max, IntKind.signed, IntKind.bits] using h
theorem wfS_u16 {n : Int} (h : (Lit.int .u16 n).wf = true) : 0 ≤ n ∧ n ≤ 65535 := by
  simpa [Lit.wf, IntKind.min, IntKind.max, IntKind.signed, IntKind.bits] using h
theorem wfS_i64 {n : Int} (h : (Lit.int .i64 n).wf = true) : -9223372036854775808 ≤ n ∧ n ≤ 9223372036854775807 := by
  simpa [Lit.wf, IntKind.min, IntKind.max, IntKind.signed, IntKind.bits] using h
section
variable {base : Nat} {sp : Nat → Bool} {held : Bool} {fuel : Nat} {cs : List Value} {x : DataW H × List MemPlace}
theorem u163_of_trod (h : DataW.trod enc Tryz.prog W base sp held fuel 24 cs = some x) : ∃ a b c, cs = [.int .u16 a, .int .u16 b, .int .u16 c] ∧ (0 ≤ a ∧ a ≤ 65535) ∧ (0 ≤ b ∧ b ≤ 65535) ∧ (0 ≤ c ∧ c ≤ 65535) := by
  have h1 : AllK .u16 cs := allK_arr (UL.h (P := Tryz.prog)) (by kernel_rfl) (fun fu c x hx => allK_int (UL.h (P := Tryz.prog)) hx) h
  obtain ⟨xs, m, _, _, hl, _, _⟩ := DataW.trod_array (UL.h (P := Tryz.prog) (t := 24)) h
  rw [show Tryz.prog.cellsOf 24 = 3 by kernel_rfl] at hl
  obtain ⟨a, b, c, rfl⟩ := listS3 hl
  obtain ⟨a, rfl, w0⟩ := h1 a (by simp)
  obtain ⟨b, rfl, w1⟩ := h1 b (by simp)
  obtain ⟨c, rfl, w2⟩ := h1 c (by simp)
  exact ⟨a, b, c, rfl, wfS_u16 w0, wfS_u16 w1, wfS_u16 w2⟩
theorem u83_of_trod (h : DataW.trod enc Tryz.prog W base sp held fuel 25 cs = some x) : ∃ a b c, cs = [.int .u8 a, .int .u8 b, .int .u8 c] ∧ (0 ≤ a ∧ a ≤ 255) ∧ (0 ≤ b ∧ b ≤ 255) ∧ (0 ≤ c ∧ c ≤ 255) := by
  have h1 : AllK .u8 cs := allK_arr (UL.h (P := Tryz.prog)) (by kernel_rfl) (fun fu c x hx => allK_int (UL.h (P := Tryz.prog)) hx) h
  obtain ⟨xs, m, _, _, hl, _, _⟩ := DataW.trod_array (UL.h (P := Tryz.prog) (t := 25)) h
  rw [show Tryz.prog.cellsOf 25 = 3 by kernel_rfl] at hl
  obtain ⟨a, b, c, rfl⟩ := listS3 hl
  obtain ⟨a, rfl, w0⟩ := h1 a (by simp)
  obtain ⟨b, rfl, w1⟩ := h1 b (by simp)
  obtain ⟨c, rfl, w2⟩ := h1 c (by simp)
  exact ⟨a, b, c, rfl, wfS_u8 w0, wfS_u8 w1, wfS_u8 w2⟩
theorem ints_of_trod (hsp : ∀ b, sp b = true) {v : Value} (h : DataW.trod enc Tryz.prog W base sp held fuel 22 [v] = some x) : ∃ xs, xs.length ≤ 9223372036854775807 ∧ (∀ y ∈ xs, -9223372036854775808 ≤ y ∧ y ≤ 9223372036854775807) ∧ Rdb (fun b => W.heap[b]?) (cI .i64) v xs := by
  obtain ⟨u, xs, h1, h2, h3, h4⟩ := rdb_of_trod (c := cI .i64) (UL.h (P := Tryz.prog)) (by kernel_rfl) (by decide) hsp (fun y => -9223372036854775808 ≤ y ∧ y ≤ 9223372036854775807) (fun fu c x hx => by
    obtain ⟨n, h1, _, h2⟩ := DataW.trod_int (UL.h (P := Tryz.prog)) hx
    exact ⟨n, h1, wfS_i64 h2⟩) h
  cases h1
  exact ⟨xs, Nat.le_trans h2 (by decide), h3, h4⟩
end
end Go.Proofs.YtjpghlljcibcjaaGreatDoor
