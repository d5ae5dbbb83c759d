/- What the arguments of the laws on meshes hold: a mesh, a draft, changes. -/
import Derived.Test.YtolchkdndnjhbaaDoorFr
import Derived.Test.YtolchkdndnjhbaaDoorMr7
namespace Go.Proofs.YtolchkdndnjhbaaDoor
open Go Go.Sx Go.ChangeShapes Go.WideShapes Go.ChangeAt Go.RowKit
variable {H : Type} {enc : TypeId × Value → H} {W : World}
theorem cellsV3 : Tryd.prog.cellsOf 33 = 3 := by kernel_rfl
theorem cellsInt : Tryd.prog.cellsOf 3 = 1 := by kernel_rfl
theorem cellsPts : Tryd.prog.cellsOf 22 = 1 := by kernel_rfl
theorem cellsMesh : Tryd.prog.cellsOf 24 = 2 := by kernel_rfl
theorem list1 {α : Type} {l : List α} (h : l.length = 1) : ∃ a, l = [a] := by
  match l, h with
  | [a], _ => exact ⟨_, rfl⟩
theorem list2 {α : Type} {l : List α} (h : l.length = 2) : ∃ a b, l = [a, b] := by
  match l, h with
  | [a, b], _ => exact ⟨_, _, rfl⟩
theorem list3 {α : Type} {l : List α} (h : l.length = 3) : ∃ a b c, l = [a, b, c] := by
  match l, h with
  | [a, b, c], _ => exact ⟨_, _, _, rfl⟩
theorem list4 {α : Type} {l : List α} (h : l.length = 4) : ∃ a b c d, l = [a, b, c, d] := by
  match l, h with
  | [a, b, c, d], _ => exact ⟨_, _, _, _, rfl⟩
theorem list7 {α : Type} {l : List α} (h : l.length = 7) : ∃ a b c d e f g, l = [a, b, c, d, e, f, g] := by
  match l, h with
  | [a, b, c, d, e, f, g], _ => exact ⟨_, _, _, _, _, _, _, rfl⟩
theorem list8 {α : Type} {l : List α} (h : l.length = 8) : ∃ a b c d e f g i, l = [a, b, c, d, e, f, g, i] := by
  match l, h with
  | [a, b, c, d, e, f, g, i], _ => exact ⟨_, _, _, _, _, _, _, _, rfl⟩
theorem some_of {α : Type} {l : List α} {i : Nat} (h : i < l.length) : ∃ x, l[i]? = some x := ⟨_, List.getElem?_eq_getElem h⟩
section
variable {base : Nat} {sp : Nat → Bool} {held : Bool} {fuel : Nat} {cs : List Value} {x : DataW H × List MemPlace}
theorem v3_of_trod (h : DataW.trod enc Tryd.prog W base sp held fuel 33 cs = some x) : ∃ y : V3, cs = cV3.enc y ∧ True := by
  have h1 : AllK .i64 cs := allK_arr (UL.h (P := Tryd.prog)) (by kernel_rfl) (fun fu c x hx => allK_int (UL.h (P := Tryd.prog)) hx) h
  obtain ⟨xs, m, _, _, hl, _, _⟩ := DataW.trod_array (UL.h (P := Tryd.prog) (t := 33)) h
  rw [cellsV3] at hl
  obtain ⟨a, b, c, rfl⟩ := list3 hl
  obtain ⟨a, rfl, _⟩ := h1 a (by simp)
  obtain ⟨b, rfl, _⟩ := h1 b (by simp)
  obtain ⟨c, rfl, _⟩ := h1 c (by simp)
  exact ⟨⟨a, b, c⟩, rfl, trivial⟩
theorem pts_of_trod (hsp : ∀ b, sp b = true) (h : DataW.trod enc Tryd.prog W base sp held fuel 22 cs = some x) : ∃ v xs, cs = [v] ∧ Rdb (fun b => W.heap[b]?) cV3 v xs := by
  obtain ⟨v, xs, h1, _, _, h2⟩ := rdb_of_trod (c := cV3) (UL.h (P := Tryd.prog)) (by kernel_rfl) (by decide) hsp (fun _ => True) (fun fu c x hx => v3_of_trod hx) h
  exact ⟨v, xs, h1, h2⟩
theorem mesh_of_trod (hsp : ∀ b, sp b = true) (h : DataW.trod enc Tryd.prog W base sp held fuel 24 cs = some x) : ∃ pv fv pts fcs, cs = [pv, fv] ∧ Rdb (fun b => W.heap[b]?) cV3 pv pts ∧ Rdb (fun b => W.heap[b]?) cV3 fv fcs := by
  obtain ⟨xs, n, _, _, hl, hx, hf⟩ := DataW.trod_struct (UL.h (P := Tryd.prog)) h
  have h0 := hf 0 _ rfl
  replace h0 : DataW.trod enc Tryd.prog W base sp held n 22 ((cs.drop 0).take (Tryd.prog.cellsOf 22)) = xs[0]? := h0
  have h1 := hf 1 _ rfl
  replace h1 : DataW.trod enc Tryd.prog W base sp held n 22 ((cs.drop 1).take (Tryd.prog.cellsOf 22)) = xs[1]? := h1
  obtain ⟨y0, e0⟩ := some_of (l := xs) (i := 0) (by rw [hx]; decide)
  obtain ⟨y1, e1⟩ := some_of (l := xs) (i := 1) (by rw [hx]; decide)
  rw [e0] at h0
  rw [e1] at h1
  rw [cellsMesh] at hl
  obtain ⟨a, b, rfl⟩ := list2 hl
  rw [cellsPts] at h0 h1
  obtain ⟨pv, pts, g1, g2⟩ := pts_of_trod hsp h0
  obtain ⟨fv, fcs, g3, g4⟩ := pts_of_trod hsp h1
  cases g1
  cases g3
  exact ⟨_, _, pts, fcs, rfl, g2, g4⟩
theorem wf_u8 {n : Int} (h : (Lit.int .u8 n).wf = true) : 0 ≤ n ∧ n ≤ 255 := by
  simpa [Lit.wf, IntKind.min, IntKind.max, IntKind.signed, IntKind.bits] using h
theorem wf_i8 {n : Int} (h : (Lit.int .i8 n).wf = true) : -128 ≤ n ∧ n ≤ 127 := by
  simpa [Lit.wf, IntKind.min, IntKind.max, IntKind.signed, IntKind.bits] using h
theorem wf_i16 {n : Int} (h : (Lit.int .i16 n).wf = true) : -32768 ≤ n ∧ n ≤ 32767 := by
  simpa [Lit.wf, IntKind.min, IntKind.max, IntKind.signed, IntKind.bits] using h
theorem s3_of_trod (h : DataW.trod enc Tryd.prog W base sp held fuel 26 cs = some x) : ∃ a b c, cs = [.int .i16 a, .int .i16 b, .int .i16 c] ∧ (-32768 ≤ a ∧ a ≤ 32767) ∧ (-32768 ≤ b ∧ b ≤ 32767) ∧ (-32768 ≤ c ∧ c ≤ 32767) := by
  have h1 : AllK .i16 cs := allK_arr (UL.h (P := Tryd.prog)) (by kernel_rfl) (fun fu c x hx => allK_int (UL.h (P := Tryd.prog)) hx) h
  obtain ⟨xs, m, _, _, hl, _, _⟩ := DataW.trod_array (UL.h (P := Tryd.prog) (t := 26)) h
  rw [show Tryd.prog.cellsOf 26 = 3 by kernel_rfl] at hl
  obtain ⟨a, b, c, rfl⟩ := list3 hl
  obtain ⟨a, rfl, w0⟩ := h1 a (by simp)
  obtain ⟨b, rfl, w1⟩ := h1 b (by simp)
  obtain ⟨c, rfl, w2⟩ := h1 c (by simp)
  exact ⟨a, b, c, rfl, wf_i16 w0, wf_i16 w1, wf_i16 w2⟩
theorem u8_of_trod (h : DataW.trod enc Tryd.prog W base sp held fuel 5 cs = some x) : ∃ n, cs = [.int .u8 n] ∧ 0 ≤ n ∧ n ≤ 255 := by
  obtain ⟨n, h1, _, h2⟩ := DataW.trod_int (UL.h (P := Tryd.prog)) h
  exact ⟨n, h1, wf_u8 h2⟩
theorem cellsU8 : Tryd.prog.cellsOf 5 = 1 := by kernel_rfl
theorem cellsI8 : Tryd.prog.cellsOf 78 = 1 := by kernel_rfl
theorem cellsOff : Tryd.prog.cellsOf 27 = 1 := by kernel_rfl
theorem cellsAt : Tryd.prog.cellsOf 26 = 3 := by kernel_rfl
theorem cellsBool : Tryd.prog.cellsOf 4 = 1 := by kernel_rfl
theorem cellsDraft : Tryd.prog.cellsOf 29 = 7 := by kernel_rfl
theorem cellsBend : Tryd.prog.cellsOf 31 = 4 := by kernel_rfl
theorem cellsBends : Tryd.prog.cellsOf 32 = 8 := by kernel_rfl
theorem off_of_trod (hsp : ∀ b, sp b = true) (h : DataW.trod enc Tryd.prog W base sp held fuel 27 cs = some x) : ∃ v xs, cs = [v] ∧ xs.length ≤ 9223372036854775807 ∧ (∀ y ∈ xs, -128 ≤ y ∧ y ≤ 127) ∧ Rdb (fun b => W.heap[b]?) (cI .i8) v xs := by
  obtain ⟨v, xs, h1, h2, h3, h4⟩ := rdb_of_trod (c := cI .i8) (UL.h (P := Tryd.prog)) (by kernel_rfl) (by decide) hsp (fun y => -128 ≤ y ∧ y ≤ 127) (fun fu c x hx => by
    obtain ⟨n, h1, _, h2⟩ := DataW.trod_int (UL.h (P := Tryd.prog)) hx
    exact ⟨n, h1, wf_i8 h2⟩) h
  exact ⟨v, xs, h1, Nat.le_trans h2 (by decide), h3, h4⟩
theorem draft_of_trod (hsp : ∀ b, sp b = true) (h : DataW.trod enc Tryd.prog W base sp held fuel 29 cs = some x) : ∃ d : DraftA, cs = d.cells ∧ d.ok ∧ Rdb (fun b => W.heap[b]?) (cI .i8) d.ov d.off := by
  obtain ⟨xs, n, _, _, hl, hx, hf⟩ := DataW.trod_struct (UL.h (P := Tryd.prog)) h
  have h0 := hf 0 _ rfl
  replace h0 : DataW.trod enc Tryd.prog W base sp held n 5 ((cs.drop 0).take (Tryd.prog.cellsOf 5)) = xs[0]? := h0
  have h1 := hf 1 _ rfl
  replace h1 : DataW.trod enc Tryd.prog W base sp held n 5 ((cs.drop 1).take (Tryd.prog.cellsOf 5)) = xs[1]? := h1
  have h2 := hf 2 _ rfl
  replace h2 : DataW.trod enc Tryd.prog W base sp held n 26 ((cs.drop 2).take (Tryd.prog.cellsOf 26)) = xs[2]? := h2
  have h3 := hf 3 _ rfl
  replace h3 : DataW.trod enc Tryd.prog W base sp held n 27 ((cs.drop 5).take (Tryd.prog.cellsOf 27)) = xs[3]? := h3
  have h4 := hf 4 _ rfl
  replace h4 : DataW.trod enc Tryd.prog W base sp held n 4 ((cs.drop 6).take (Tryd.prog.cellsOf 4)) = xs[4]? := h4
  obtain ⟨y0, e0⟩ := some_of (l := xs) (i := 0) (by rw [hx]; decide)
  obtain ⟨y1, e1⟩ := some_of (l := xs) (i := 1) (by rw [hx]; decide)
  obtain ⟨y2, e2⟩ := some_of (l := xs) (i := 2) (by rw [hx]; decide)
  obtain ⟨y3, e3⟩ := some_of (l := xs) (i := 3) (by rw [hx]; decide)
  obtain ⟨y4, e4⟩ := some_of (l := xs) (i := 4) (by rw [hx]; decide)
  rw [e0] at h0
  rw [e1] at h1
  rw [e2] at h2
  rw [e3] at h3
  rw [e4] at h4
  rw [cellsDraft] at hl
  obtain ⟨c0, c1, c2, c3, c4, c5, c6, rfl⟩ := list7 hl
  rw [cellsU8] at h0 h1
  rw [cellsAt] at h2
  rw [cellsOff] at h3
  rw [cellsBool] at h4
  obtain ⟨kd, k1, k2⟩ := u8_of_trod h0
  obtain ⟨sz, s1, s2⟩ := u8_of_trod h1
  have hk : AllK .i16 [c2, c3, c4] := allK_arr (UL.h (P := Tryd.prog)) (by kernel_rfl) (fun fu c x hx => allK_int (UL.h (P := Tryd.prog)) hx) h2
  obtain ⟨a0, rfl, w0⟩ := hk c2 (by simp)
  obtain ⟨a1, rfl, w1⟩ := hk c3 (by simp)
  obtain ⟨a2, rfl, w2⟩ := hk c4 (by simp)
  obtain ⟨ov, off, o1, o2, o3, o4⟩ := off_of_trod hsp h3
  obtain ⟨tn, t1, _⟩ := DataW.trod_bool (UL.h (P := Tryd.prog)) h4
  cases k1
  cases s1
  cases o1
  cases t1
  exact ⟨⟨kd, sz, a0, a1, a2, _, off, tn⟩, rfl, ⟨k2, s2, wf_i16 w0, wf_i16 w1, wf_i16 w2, o3, o2⟩, o4⟩
theorem bend_of_trod (h : DataW.trod enc Tryd.prog W base sp held fuel 31 cs = some x) : ∃ b : BendA, cs = [.int .u8 b.wh, .int .u8 b.ta, .int .u8 b.to_, .int .i64 b.n] ∧ b.ok := by
  obtain ⟨xs, n, _, _, hl, hx, hf⟩ := DataW.trod_struct (UL.h (P := Tryd.prog)) h
  have h0 := hf 0 _ rfl
  replace h0 : DataW.trod enc Tryd.prog W base sp held n 5 ((cs.drop 0).take (Tryd.prog.cellsOf 5)) = xs[0]? := h0
  have h1 := hf 1 _ rfl
  replace h1 : DataW.trod enc Tryd.prog W base sp held n 5 ((cs.drop 1).take (Tryd.prog.cellsOf 5)) = xs[1]? := h1
  have h2 := hf 2 _ rfl
  replace h2 : DataW.trod enc Tryd.prog W base sp held n 5 ((cs.drop 2).take (Tryd.prog.cellsOf 5)) = xs[2]? := h2
  have h3 := hf 3 _ rfl
  replace h3 : DataW.trod enc Tryd.prog W base sp held n 3 ((cs.drop 3).take (Tryd.prog.cellsOf 3)) = xs[3]? := h3
  obtain ⟨y0, e0⟩ := some_of (l := xs) (i := 0) (by rw [hx]; decide)
  obtain ⟨y1, e1⟩ := some_of (l := xs) (i := 1) (by rw [hx]; decide)
  obtain ⟨y2, e2⟩ := some_of (l := xs) (i := 2) (by rw [hx]; decide)
  obtain ⟨y3, e3⟩ := some_of (l := xs) (i := 3) (by rw [hx]; decide)
  rw [e0] at h0
  rw [e1] at h1
  rw [e2] at h2
  rw [e3] at h3
  rw [cellsBend] at hl
  obtain ⟨c0, c1, c2, c3, rfl⟩ := list4 hl
  rw [cellsU8] at h0 h1 h2
  rw [cellsInt] at h3
  obtain ⟨wh, k1, k2⟩ := u8_of_trod h0
  obtain ⟨ta, s1, s2⟩ := u8_of_trod h1
  obtain ⟨to_, o1, o2⟩ := u8_of_trod h2
  obtain ⟨m, t1, _, _⟩ := DataW.trod_int (UL.h (P := Tryd.prog)) h3
  cases k1
  cases s1
  cases o1
  cases t1
  exact ⟨⟨wh, ta, to_, m⟩, rfl, k2, s2, o2⟩
theorem bends_of_trod (h : DataW.trod enc Tryd.prog W base sp held fuel 32 cs = some x) : ∃ b c : BendA, cs = [.int .u8 b.wh, .int .u8 b.ta, .int .u8 b.to_, .int .i64 b.n, .int .u8 c.wh, .int .u8 c.ta, .int .u8 c.to_, .int .i64 c.n] ∧ b.ok ∧ c.ok := by
  obtain ⟨xs, m, _, _, hl, hx, hf⟩ := DataW.trod_array (UL.h (P := Tryd.prog)) h
  have h0 := hf 0 (by decide)
  have h1 := hf 1 (by decide)
  obtain ⟨y0, e0⟩ := some_of (l := xs) (i := 0) (by rw [hx]; decide)
  obtain ⟨y1, e1⟩ := some_of (l := xs) (i := 1) (by rw [hx]; decide)
  rw [e0, cellsBend] at h0
  rw [e1, cellsBend] at h1
  rw [cellsBends] at hl
  obtain ⟨c0, c1, c2, c3, c4, c5, c6, c7, rfl⟩ := list8 hl
  obtain ⟨b, b1, b2⟩ := bend_of_trod h0
  obtain ⟨c, d1, d2⟩ := bend_of_trod h1
  simp only [Nat.zero_mul, List.drop_zero, List.take_succ_cons, List.take_zero, List.cons.injEq, and_true] at b1
  simp only [Nat.one_mul, List.drop_succ_cons, List.drop_zero, List.take_succ_cons, List.take_zero, List.cons.injEq, and_true] at d1
  obtain ⟨rfl, rfl, rfl, rfl⟩ := b1
  obtain ⟨rfl, rfl, rfl, rfl⟩ := d1
  exact ⟨b, c, rfl, b2, d2⟩
end
end Go.Proofs.YtolchkdndnjhbaaDoor
