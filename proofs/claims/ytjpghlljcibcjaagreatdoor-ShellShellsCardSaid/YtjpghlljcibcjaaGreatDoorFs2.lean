/- What a draft of any grid holds, as an argument. -/
import Derived.Test.YtjpghlljcibcjaaGreatDoorFs
import Derived.Test.YtjpghlljcibcjaaGreatDoorLu0
namespace Go.Proofs.YtjpghlljcibcjaaGreatDoor
open Go Go.Sx Go.ChangeShapes Go.WideShapes Go.ChangeAt Go.RowKit
variable {H : Type} {enc : TypeId × Value → H} {W : World}
theorem listS4 {α : Type} {l : List α} (h : l.length = 4) : ∃ a b c d, l = [a, b, c, d] := by
  match l, h with
  | [a, b, c, d], _ => exact ⟨_, _, _, _, rfl⟩
section
variable {base : Nat} {sp : Nat → Bool} {held : Bool} {fuel : Nat} {cs : List Value} {x : DataW H × List MemPlace}
theorem u8s_of_trod (hsp : ∀ b, sp b = true) (h : DataW.trod enc Tryz.prog W base sp held fuel 41 cs = some x) : ∃ v xs, cs = [v] ∧ xs.length ≤ 9223372036854775807 ∧ (∀ y ∈ xs, 0 ≤ y ∧ y ≤ 255) ∧ Rdb (fun b => W.heap[b]?) (cI .u8) v xs := by
  obtain ⟨v, xs, h1, h2, h3, h4⟩ := rdb_of_trod (c := cI .u8) (UL.h (P := Tryz.prog)) (by kernel_rfl) (by decide) hsp (fun y => 0 ≤ y ∧ y ≤ 255) (fun fu c x hx => by
    obtain ⟨n, h1, _, h2⟩ := DataW.trod_int (UL.h (P := Tryz.prog)) hx
    exact ⟨n, h1, wfS_u8 h2⟩) h
  exact ⟨v, xs, h1, Nat.le_trans h2 (by decide), h3, h4⟩
theorem u16s_of_trod (hsp : ∀ b, sp b = true) (h : DataW.trod enc Tryz.prog W base sp held fuel 42 cs = some x) : ∃ v xs, cs = [v] ∧ xs.length ≤ 9223372036854775807 ∧ (∀ y ∈ xs, 0 ≤ y ∧ y ≤ 65535) ∧ Rdb (fun b => W.heap[b]?) (cI .u16) v xs := by
  obtain ⟨v, xs, h1, h2, h3, h4⟩ := rdb_of_trod (c := cI .u16) (UL.h (P := Tryz.prog)) (by kernel_rfl) (by decide) hsp (fun y => 0 ≤ y ∧ y ≤ 65535) (fun fu c x hx => by
    obtain ⟨n, h1, _, h2⟩ := DataW.trod_int (UL.h (P := Tryz.prog)) hx
    exact ⟨n, h1, wfS_u16 h2⟩) h
  exact ⟨v, xs, h1, Nat.le_trans h2 (by decide), h3, h4⟩
theorem g10_of_trod (hsp : ∀ b, sp b = true) (h : DataW.trod enc Tryz.prog W base sp held fuel 44 cs = some x) : ∃ d : G10A, cs = d.cells ∧ d.ok ∧ Rdb (fun b => W.heap[b]?) (cI .u8) d.sv d.S ∧ Rdb (fun b => W.heap[b]?) (cI .u16) d.vv d.V := by
  obtain ⟨xs, n, _, _, hl, hx, hf⟩ := DataW.trod_struct (UL.h (P := Tryz.prog)) h
  have h0 := hf 0 _ rfl
  replace h0 : DataW.trod enc Tryz.prog W base sp held n 41 ((cs.drop 0).take (Tryz.prog.cellsOf 41)) = xs[0]? := h0
  have h1 := hf 1 _ rfl
  replace h1 : DataW.trod enc Tryz.prog W base sp held n 5 ((cs.drop 1).take (Tryz.prog.cellsOf 5)) = xs[1]? := h1
  have h2 := hf 2 _ rfl
  replace h2 : DataW.trod enc Tryz.prog W base sp held n 42 ((cs.drop 2).take (Tryz.prog.cellsOf 42)) = xs[2]? := h2
  have h3 := hf 3 _ rfl
  replace h3 : DataW.trod enc Tryz.prog W base sp held n 4 ((cs.drop 3).take (Tryz.prog.cellsOf 4)) = xs[3]? := h3
  have some_of : ∀ {i : Nat}, i < xs.length → ∃ y, xs[i]? = some y := fun h => ⟨_, List.getElem?_eq_getElem h⟩
  obtain ⟨y0, e0⟩ := some_of (i := 0) (by rw [hx]; decide)
  obtain ⟨y1, e1⟩ := some_of (i := 1) (by rw [hx]; decide)
  obtain ⟨y2, e2⟩ := some_of (i := 2) (by rw [hx]; decide)
  obtain ⟨y3, e3⟩ := some_of (i := 3) (by rw [hx]; decide)
  rw [e0] at h0
  rw [e1] at h1
  rw [e2] at h2
  rw [e3] at h3
  rw [show Tryz.prog.cellsOf 44 = 4 by kernel_rfl] at hl
  rw [show Tryz.prog.cellsOf 41 = 1 by kernel_rfl] at h0
  rw [show Tryz.prog.cellsOf 5 = 1 by kernel_rfl] at h1
  rw [show Tryz.prog.cellsOf 42 = 1 by kernel_rfl] at h2
  rw [show Tryz.prog.cellsOf 4 = 1 by kernel_rfl] at h3
  obtain ⟨c0, c1, c2, c3, rfl⟩ := listS4 hl
  obtain ⟨sv, S, o1, o2, o3, o4⟩ := u8s_of_trod hsp h0
  obtain ⟨ou, p1, p2⟩ := u8S_of_trod h1
  obtain ⟨vv, V, q1, q2, q3, q4⟩ := u16s_of_trod hsp h2
  obtain ⟨sm, t1, _⟩ := DataW.trod_bool (UL.h (P := Tryz.prog)) h3
  cases o1
  cases p1
  cases q1
  cases t1
  exact ⟨⟨_, ou, _, sm, S, V⟩, rfl, ⟨p2, o3, q3, o2, q2⟩, o4, q4⟩
end
end Go.Proofs.YtjpghlljcibcjaaGreatDoor
