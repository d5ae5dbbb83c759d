/- What the arguments of the laws on whole numbers hold: drafts, integers, texts; the library's variables. -/
import Derived.Test.YtfbhlfhecmhihaaGreatDoorFr
import Derived.Test.YtfbhlfhecmhihaaGreatDoorLa2
import Derived.LaidLaws
namespace Go.Sx
open Go Go.ChangeShapes Go.WideShapes Go.ChangeAt Go.RowKit
variable {H : Type} {enc : TypeId × Value → H} {P : Program} {w : World} {base : Nat} {spare : Nat → Bool} {held : Bool}
theorem int_arg {r : Reach} {b0 : Nat} {t : TypeId} {k : IntKind} {v : Value} {fuel : Nat} {x : DataW H × List MemPlace} (ht : P.underlying t = some (.int k)) (h : Value.okWide P w r b0 t v) (hd : DataW.trod enc P w base spare held fuel t v.cells.toList = some x) : ∃ n, v = .int k n ∧ (Lit.int k n).wf = true := by
  obtain ⟨n, hv, _, hw⟩ := DataW.trod_int ht hd
  refine ⟨n, ?_, hw⟩
  simp only [Value.okWide, ht] at h
  unfold Cell.okWide at h
  cases v <;> simp [Value.cells, Cell.ok, ht] at h hv ⊢ <;> first | exact hv | (subst hv; simp_all)
theorem wf_i64 {n : Int} (h : (Lit.int .i64 n).wf = true) : -9223372036854775808 ≤ n ∧ n ≤ 9223372036854775807 := by
  simpa [Lit.wf, IntKind.min, IntKind.max, IntKind.signed, IntKind.bits] using h
theorem wf_u8' {n : Int} (h : (Lit.int .u8 n).wf = true) : 0 ≤ n ∧ n ≤ 255 := by
  simpa [Lit.wf, IntKind.min, IntKind.max, IntKind.signed, IntKind.bits] using h
theorem wf_u16 {n : Int} (h : (Lit.int .u16 n).wf = true) : 0 ≤ n ∧ n ≤ 65535 := by
  simpa [Lit.wf, IntKind.min, IntKind.max, IntKind.signed, IntKind.bits] using h
theorem someOf {α : Type} {l : List α} {i : Nat} (h : i < l.length) : ∃ x, l[i]? = some x := ⟨_, List.getElem?_eq_getElem h⟩
end Go.Sx
namespace Go.Proofs.YtfbhlfhecmhihaaGreatDoor
open Go Go.Sx Go.ChangeShapes Go.WideShapes Go.ChangeAt Go.RowKit
variable {H : Type} {enc : TypeId × Value → H} {W : World}
section
variable {base : Nat} {sp : Nat → Bool} {held : Bool} {fuel : Nat} {cs : List Value} {x : DataW H × List MemPlace}
set_option maxRecDepth 100000 in
theorem d01_of_trod (hsp : ∀ b, sp b = true) (h : DataW.trod enc Tryz.prog W base sp held fuel 25 cs = some x) : ∃ d : D01, cs = d.cells ∧ d.ok ∧ Rdb (fun b => W.heap[b]?) (cN .u16) d.gv d.gs := by
  obtain ⟨xs, n, _, _, hl, hx, hf⟩ := DataW.trod_struct (UL.h (P := Tryz.prog)) h
  have h0 := hf 0 _ rfl
  replace h0 : DataW.trod enc Tryz.prog W base sp held n 4 ((cs.drop 0).take (Tryz.prog.cellsOf 4)) = xs[0]? := h0
  have h1 := hf 1 _ rfl
  replace h1 : DataW.trod enc Tryz.prog W base sp held n 22 ((cs.drop 1).take (Tryz.prog.cellsOf 22)) = xs[1]? := h1
  have h2 := hf 2 _ rfl
  replace h2 : DataW.trod enc Tryz.prog W base sp held n 23 ((cs.drop 2).take (Tryz.prog.cellsOf 23)) = xs[2]? := h2
  obtain ⟨y0, e0⟩ := someOf (l := xs) (i := 0) (by rw [hx]; decide)
  obtain ⟨y1, e1⟩ := someOf (l := xs) (i := 1) (by rw [hx]; decide)
  obtain ⟨y2, e2⟩ := someOf (l := xs) (i := 2) (by rw [hx]; decide)
  rw [e0] at h0
  rw [e1] at h1
  rw [e2] at h2
  rw [show Tryz.prog.cellsOf 25 = 3 by kernel_rfl] at hl
  obtain ⟨c0, c1, c2, rfl⟩ : ∃ a b c, cs = [a, b, c] := by
    match cs, hl with
    | [a, b, c], _ => exact ⟨_, _, _, rfl⟩
  rw [show Tryz.prog.cellsOf 4 = 1 by kernel_rfl] at h0
  rw [show Tryz.prog.cellsOf 22 = 1 by kernel_rfl] at h1
  rw [show Tryz.prog.cellsOf 23 = 1 by kernel_rfl] at h2
  obtain ⟨bl, t1, _⟩ := DataW.trod_bool (UL.h (P := Tryz.prog)) h0
  obtain ⟨gv, gs, g1, g2, g3, g4⟩ := rdb_of_trod (c := cN .u16) (UL.h (P := Tryz.prog)) (by kernel_rfl) (by decide) hsp (fun y => y ≤ 65535) (fun fu c x hx => by
    obtain ⟨n, h1, _, h2⟩ := DataW.trod_int (UL.h (P := Tryz.prog)) hx
    obtain ⟨w0, w1⟩ := wf_u16 h2
    refine ⟨n.toNat, ?_, by omega⟩
    rw [h1]
    show _ = [Value.int .u16 ((n.toNat : Nat) : Int)]
    rw [show ((n.toNat : Nat) : Int) = n by omega]) h1
  obtain ⟨z, z1, _, z2⟩ := DataW.trod_int (UL.h (P := Tryz.prog)) h2
  obtain ⟨w0, w1⟩ := wf_u16 z2
  cases t1
  cases g1
  cases z1
  refine ⟨⟨bl, _, gs, z.toNat⟩, ?_, ⟨g3, Nat.le_trans g2 (by decide), by simp only; omega⟩, g4⟩
  show _ = [Value.bool bl, _, Value.int .u16 ((z.toNat : Nat) : Int)]
  rw [show ((z.toNat : Nat) : Int) = z by omega]
end
end Go.Proofs.YtfbhlfhecmhihaaGreatDoor
