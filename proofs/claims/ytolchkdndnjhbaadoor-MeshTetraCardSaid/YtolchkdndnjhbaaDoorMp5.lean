/- Meshes, plain: what the measures and the changes give. -/
import Derived.Test.YtolchkdndnjhbaaDoorMp4
namespace Go.Sx
open Go
def V3.add (a b : V3) : V3 := ⟨a.x + b.x, a.y + b.y, a.z + b.z⟩
theorem isFar_iff {p : V3} : isFar p = true ↔ p.x < -200000 ∨ 200000 < p.x ∨ p.y < -200000 ∨ 200000 < p.y ∨ p.z < -200000 ∨ 200000 < p.z := by
  simp [isFar, or_assoc]
theorem isFar_no {p : V3} : isFar p = false ↔ ¬ (p.x < -200000 ∨ 200000 < p.x ∨ p.y < -200000 ∨ 200000 < p.y ∨ p.z < -200000 ∨ 200000 < p.z) := by
  rw [← isFar_iff]; simp
def V3.mn (a b : V3) : V3 := ⟨if b.x < a.x then b.x else a.x, if b.y < a.y then b.y else a.y, if b.z < a.z then b.z else a.z⟩
def V3.mx (a b : V3) : V3 := ⟨if a.x < b.x then b.x else a.x, if a.y < b.y then b.y else a.y, if a.z < b.z then b.z else a.z⟩
def swapF (f : V3) : V3 := ⟨f.x, f.z, f.y⟩
/-- no flaw -/
def okM (pts fcs : List V3) : Prop := (flawM pts fcs).1 = 0
instance {pts fcs : List V3} : Decidable (okM pts fcs) := inferInstanceAs (Decidable (_ = _))
theorem chk_ok {pts fcs : List V3} (h : chkM pts fcs = 0) : okM pts fcs := by
  unfold chkM at h; unfold okM
  split at h
  · assumption
  · cases h
theorem chk_no {pts fcs : List V3} (h : ¬ chkM pts fcs = 0) : ¬ okM pts fcs ∧ chkM pts fcs = 350 := by
  unfold chkM at h ⊢; unfold okM
  split at h
  · exact absurd rfl h
  · rename_i h1; exact ⟨h1, by rw [if_neg h1]⟩
theorem firstOf_ge : ∀ (l : List (Option Nat)) (k : Nat), 0 < k → (firstOf l k).1 = 0 → ∀ o ∈ l, o = none
  | [], _, _, _, o, ho => by cases ho
  | some i :: r, k, hk, h, o, ho => by simp only [firstOf] at h; omega
  | none :: r, k, hk, h, o, ho => by
    rcases List.mem_cons.1 ho with rfl | ho
    · rfl
    · exact firstOf_ge r (k + 1) (by omega) h o ho
structure Good (pts fcs : List V3) : Prop where
  p4 : 4 ≤ pts.length
  p300 : pts.length ≤ 300
  f4 : 4 ≤ fcs.length
  f600 : fcs.length ≤ 600
  far : farF pts = none
  wrong : wrongF pts.length fcs = none
  flat : flatF pts fcs = none
  twice : twiceF fcs = none
  opn : openF fcs (ownF fcs) = none
  spare : spareF pts.length fcs = none
  apart : apartF (fun u => (mGet (ownF fcs) u).getD 0) fcs = none
theorem okM_good {pts fcs : List V3} : okM pts fcs ↔ Good pts fcs := by
  constructor
  · intro h
    unfold okM flawM at h
    split at h
    · cases h
    split at h
    · cases h
    have := firstOf_ge _ _ (by decide) h
    exact ⟨by omega, by omega, by omega, by omega, this _ (by simp), this _ (by simp), this _ (by simp), this _ (by simp), this _ (by simp), this _ (by simp), this _ (by simp)⟩
  · rintro ⟨a1, a2, a3, a4, h1, h2, h3, h4, h5, h6, h7⟩
    unfold okM flawM
    rw [if_neg (by omega), if_neg (by omega), h1, h2, h3, h4, h5, h6, h7]
    rfl
def boxM (pts fcs : List V3) : V3 × V3 × Int := if okM pts fcs then (pts.foldl V3.mn (ptAt pts 0), pts.foldl V3.mx (ptAt pts 0), 0) else (V3.zero, V3.zero, 350)
def eulerM (pts fcs : List V3) : Int × Int × Int := if okM pts fcs then (((3 * fcs.length / 2 : Nat) : Int), (pts.length : Int) - ((3 * fcs.length / 2 : Nat) : Int) + fcs.length, 0) else (0, 0, 350)
/-- a changed mesh, or an error -/
def turnedM (pts fcs : List V3) : Int × List V3 × List V3 := if okM pts fcs then (0, pts, fcs.map swapF) else (350, [], [])
def bigBy (v : V3) : Bool := decide (v.x < -400000) || decide (400000 < v.x) || decide (v.y < -400000) || decide (400000 < v.y) || decide (v.z < -400000) || decide (400000 < v.z)
def movedM (pts fcs : List V3) (v : V3) : Int × List V3 × List V3 :=
  if okM pts fcs then if bigBy v = true ∨ (pts.map (·.add v)).any isFar = true then (6, [], []) else (0, pts.map (·.add v), fcs) else (350, [], [])
theorem mapTake_get {α : Type} {f : α → α} {l : List α} {k : Nat} {x : α} (h : l[k]? = some x) : ((l.take k).map f ++ l.drop k)[k]? = some x := by
  have hk := (List.getElem?_eq_some_iff.1 h).1
  have e : ((l.take k).map f).length = k := by simp; omega
  rw [List.getElem?_append_right (by omega), e, Nat.sub_self, List.getElem?_drop, Nat.add_zero, h]
theorem mapTake_set {α : Type} {f : α → α} {l : List α} {k : Nat} {x y : α} (h : l[k]? = some x) (hy : y = f x) : ((l.take k).map f ++ l.drop k).set k y = (l.take (k + 1)).map f ++ l.drop (k + 1) := by
  subst hy
  have hk := (List.getElem?_eq_some_iff.1 h).1
  have hx := (List.getElem?_eq_some_iff.1 h).2
  have e : ((l.take k).map f).length = k := by simp; omega
  rw [List.set_append_right k (f x) (by omega), e, Nat.sub_self, List.drop_eq_getElem_cons hk, hx, List.set_cons_zero, List.take_succ_eq_append_getElem hk, hx]
  simp
theorem mapTake_length {α : Type} {f : α → α} {l : List α} {k : Nat} : ((l.take k).map f ++ l.drop k).length = l.length := by simp; omega
end Go.Sx
