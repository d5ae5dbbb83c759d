/- Meshes, plain: corners that are used; faces that are reached. -/
import Derived.Test.YtolchkdndnjhbaaDoorMp2
namespace Go.Sx
open Go
def idxOf (xs : List Bool) (b : Bool) : Int := match xs.findIdx? (· == b) with
  | some k => (k : Int)
  | none => -1
/-- what a test returns out of the index of the first false -/
def mark1 (u : List Bool) (f : V3) : List Bool := ((u.set f.x.toNat true).set f.y.toNat true).set f.z.toNat true
def usedF (n : Nat) (fcs : List V3) : List Bool := fcs.foldl mark1 (List.replicate n false)
theorem mark1_length {u : List Bool} {f : V3} : (mark1 u f).length = u.length := by simp [mark1]
theorem foldl_mark_length {l : List V3} : ∀ {u : List Bool}, (l.foldl mark1 u).length = u.length := by
  induction l with
  | nil => intro u; rfl
  | cons f l ih => intro u; simp [ih, mark1_length]
theorem take_succ_foldl {α β : Type} {g : β → α → β} {l : List α} {k : Nat} {x : α} {b : β} (h : l[k]? = some x) : (l.take (k + 1)).foldl g b = g ((l.take k).foldl g b) x := by
  rw [List.take_add_one, h, List.foldl_append]; rfl
def spareF (n : Nat) (fcs : List V3) : Option Nat := (usedF n fcs).findIdx? (· == false)
theorem found_idx {xs : List Bool} : found (xs.findIdx? (· == false)) = .tuple #[.int .i64 (if idxOf xs false < 0 then 0 else idxOf xs false), .bool (decide (0 ≤ idxOf xs false))] := by
  unfold found idxOf
  cases xs.findIdx? (· == false) with
  | none => rfl
  | some k => simp [show ¬ ((k : Int) < 0) from by omega]
/-- a face is visited: the faces beyond its edges are reached, and wait -/
def visit1 (ow : Edg → Nat) (s : List Bool × List Nat) (u : Edg) : List Bool × List Nat :=
  if s.1[ow u]? = some true then s else (s.1.set (ow u) true, s.2 ++ [ow u])
def visitN (ow : Edg → Nat) (s : List Bool × List Nat) (f : V3) : Nat → List Bool × List Nat
  | 0 => s
  | k + 1 => visit1 ow (visitN ow s f k) (f.edge k).swap
def visit (ow : Edg → Nat) (s : List Bool × List Nat) (f : V3) : List Bool × List Nat := visitN ow s f 3
/-- how much is left: the faces that are not reached, and those that wait -/
def left (s : List Bool × List Nat) : Nat := s.1.count false + s.2.length
def reach (ow : Edg → Nat) (fcs : List V3) : Nat → List Bool × List Nat → List Bool
  | 0, s => s.1
  | n + 1, s => match s.2 with
    | [] => s.1
    | x :: r => match fcs[x]? with
      | none => s.1
      | some f => reach ow fcs n (visit ow (s.1, r) f)
def reach0 (ow : Edg → Nat) (fcs : List V3) : List Bool := reach ow fcs fcs.length ((List.replicate fcs.length false).set 0 true, [0])
def apartF (ow : Edg → Nat) (fcs : List V3) : Option Nat := (reach0 ow fcs).findIdx? (· == false)
theorem count_set {l : List Bool} {i : Nat} (h : l[i]? = some false) : (l.set i true).count false + 1 = l.count false := by
  induction l generalizing i with
  | nil => cases h
  | cons x l ih =>
    cases i with
    | zero => simp at h; subst h; simp
    | succ i =>
      have := ih (i := i) (by simpa using h)
      cases x <;> simp [List.count_cons] <;> omega
theorem visit1_left {ow : Edg → Nat} {s : List Bool × List Nat} {u : Edg} (h : ow u < s.1.length) : left (visit1 ow s u) = left s := by
  unfold visit1
  split
  · rfl
  · rename_i hn
    have : s.1[ow u]? = some false := by
      rw [List.getElem?_eq_getElem h] at hn ⊢
      cases hb : s.1[ow u] <;> simp_all
    have := count_set this
    simp only [left, List.length_append, List.length_cons, List.length_nil]
    omega
theorem visit1_length {ow : Edg → Nat} {s : List Bool × List Nat} {u : Edg} : (visit1 ow s u).1.length = s.1.length := by
  unfold visit1; split <;> simp
theorem visitN_length {ow : Edg → Nat} {s : List Bool × List Nat} {f : V3} {k : Nat} : (visitN ow s f k).1.length = s.1.length := by
  induction k with
  | zero => rfl
  | succ k ih => rw [visitN, visit1_length, ih]
theorem visitN_left {ow : Edg → Nat} {s : List Bool × List Nat} {f : V3} {k : Nat} (h : ∀ j, j < k → ow (f.edge j).swap < s.1.length) : left (visitN ow s f k) = left s := by
  induction k with
  | zero => rfl
  | succ k ih => rw [visitN, visit1_left (by rw [visitN_length]; exact h k (by omega)), ih fun j hj => h j (by omega)]
theorem visit1_mem {ow : Edg → Nat} {s : List Bool × List Nat} {u : Edg} {n : Nat} (h : ow u < n) (hs : ∀ x ∈ s.2, x < n) : ∀ x ∈ (visit1 ow s u).2, x < n := by
  unfold visit1
  split
  · exact hs
  · intro x hx
    rcases List.mem_append.1 hx with hx | hx
    · exact hs x hx
    · rw [List.mem_singleton.1 hx]; exact h
theorem visitN_mem {ow : Edg → Nat} {s : List Bool × List Nat} {f : V3} {n k : Nat} (h : ∀ j, j < k → ow (f.edge j).swap < n) (hs : ∀ x ∈ s.2, x < n) : ∀ x ∈ (visitN ow s f k).2, x < n := by
  induction k with
  | zero => exact hs
  | succ k ih => exact visit1_mem (h k (by omega)) (ih fun j hj => h j (by omega))
theorem reach_nil {ow : Edg → Nat} {fcs : List V3} {k : Nat} {r : List Bool} : reach ow fcs k (r, []) = r := by
  cases k <;> rfl
end Go.Sx
