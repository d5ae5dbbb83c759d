/- What the arguments of the laws on whole numbers hold: pairs. -/
import Derived.Test.YtfbhlfhecmhihaaGreatDoorFw
import Derived.Test.YtfbhlfhecmhihaaGreatDoorLa3
namespace Go.Proofs.YtfbhlfhecmhihaaGreatDoor
open Go Go.Sx Go.ChangeShapes Go.WideShapes Go.ChangeAt Go.RowKit
variable {H : Type} {enc : TypeId × Value → H} {W : World}
section
variable {base : Nat} {sp : Nat → Bool} {held : Bool} {fuel : Nat} {cs : List Value} {x : DataW H × List MemPlace}
theorem str_of_trod (h : DataW.trod enc Tryz.prog W base sp held fuel 9 cs = some x) : ∃ s : List UInt8, cs = [.string ⟨s.toArray⟩] := by
  obtain ⟨s, h1, _, _⟩ := DataW.trod_string (UL.h (P := Tryz.prog)) h
  exact ⟨s.data.toList, by rw [h1]⟩
set_option maxRecDepth 100000 in
theorem two_of_trod (hsp : ∀ b, sp b = true) (h : DataW.trod enc Tryz.prog W base sp held fuel 27 cs = some x) :
    ∃ t : Two01, cs = t.cells ∧ t.ok ∧ Rdb (fun b => W.heap[b]?) (cN .u16) t.x.gv t.x.gs ∧ Rdb (fun b => W.heap[b]?) (cN .u16) t.y.gv t.y.gs := by
  obtain ⟨xs, n, _, _, hl, hx, hf⟩ := DataW.trod_struct (UL.h (P := Tryz.prog)) h
  have h0 := hf 0 _ rfl
  replace h0 : DataW.trod enc Tryz.prog W base sp held n 9 ((cs.drop 0).take (Tryz.prog.cellsOf 9)) = xs[0]? := h0
  have h1 := hf 1 _ rfl
  replace h1 : DataW.trod enc Tryz.prog W base sp held n 9 ((cs.drop 1).take (Tryz.prog.cellsOf 9)) = xs[1]? := h1
  have h2 := hf 2 _ rfl
  replace h2 : DataW.trod enc Tryz.prog W base sp held n 25 ((cs.drop 2).take (Tryz.prog.cellsOf 25)) = xs[2]? := h2
  have h3 := hf 3 _ rfl
  replace h3 : DataW.trod enc Tryz.prog W base sp held n 25 ((cs.drop 5).take (Tryz.prog.cellsOf 25)) = xs[3]? := h3
  obtain ⟨y0, e0⟩ := someOf (l := xs) (i := 0) (by rw [hx]; decide)
  obtain ⟨y1, e1⟩ := someOf (l := xs) (i := 1) (by rw [hx]; decide)
  obtain ⟨y2, e2⟩ := someOf (l := xs) (i := 2) (by rw [hx]; decide)
  obtain ⟨y3, e3⟩ := someOf (l := xs) (i := 3) (by rw [hx]; decide)
  rw [e0] at h0
  rw [e1] at h1
  rw [e2] at h2
  rw [e3] at h3
  rw [show Tryz.prog.cellsOf 27 = 8 by kernel_rfl] at hl
  obtain ⟨c0, c1, c2, c3, c4, c5, c6, c7, rfl⟩ : ∃ a b c d e f g i, cs = [a, b, c, d, e, f, g, i] := by
    match cs, hl with
    | [a, b, c, d, e, f, g, i], _ => exact ⟨_, _, _, _, _, _, _, _, rfl⟩
  rw [show Tryz.prog.cellsOf 9 = 1 by kernel_rfl] at h0 h1
  rw [show Tryz.prog.cellsOf 25 = 3 by kernel_rfl] at h2 h3
  obtain ⟨a, a1⟩ := str_of_trod h0
  obtain ⟨b, b1⟩ := str_of_trod h1
  obtain ⟨d, d1, d2, d3⟩ := d01_of_trod hsp h2
  obtain ⟨f, f1, f2, f3⟩ := d01_of_trod hsp h3
  refine ⟨⟨a, b, d, f⟩, ?_, ⟨d2, f2⟩, d3, f3⟩
  show _ = Value.string ⟨a.toArray⟩ :: Value.string ⟨b.toArray⟩ :: (d.cells ++ f.cells)
  rw [← d1, ← f1]
  cases a1
  cases b1
  rfl
end
end Go.Proofs.YtfbhlfhecmhihaaGreatDoor
