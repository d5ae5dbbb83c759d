/- Meshes, plain: the flaw. -/
import Derived.Test.YtolchkdndnjhbaaDoorMp3
import Derived.WalkSpells
namespace Go.Sx
open Go
/-- the tests, in turn: the kind is counted up -/
def firstOf : List (Option Nat) → Nat → Nat × Nat
  | [], _ => (0, 0)
  | o :: r, k => match o with
    | some i => (k, i)
    | none => firstOf r (k + 1)
def flawM (pts fcs : List V3) : Nat × Nat :=
  if pts.length < 4 ∨ 300 < pts.length then (1, 0)
  else if fcs.length < 4 ∨ 600 < fcs.length then (1, 1)
  else firstOf [farF pts, wrongF pts.length fcs, flatF pts fcs, twiceF fcs, openF fcs (ownF fcs), spareF pts.length fcs, apartF (fun u => (mGet (ownF fcs) u).getD 0) fcs] 2
def flawV (r : Nat × Nat) : Value := .tuple #[.int .i64 (r.1 : Int), .int .i64 (r.2 : Int)]
theorem far_none {pts : List V3} (h : farF pts = none) : ∀ p ∈ pts, p.in 200000 := by
  intro p hp
  have := List.findIdx?_eq_none_iff.1 h p hp
  simp only [isFar, Bool.or_eq_false_iff, decide_eq_false_iff_not] at this
  exact ⟨by omega, by omega, by omega, by omega, by omega, by omega⟩
theorem wrong_none {n : Nat} {fcs : List V3} (h : wrongF n fcs = none) : ∀ f ∈ fcs, isWrong n f = false := List.findIdx?_eq_none_iff.1 h
theorem own_lt {fcs : List V3} : ∀ {p : Nat} {u : Edg} {g : Nat}, p ≤ 3 * fcs.length → mGet (own fcs p) u = some g → g < fcs.length
  | 0, u, g, _, h => by cases h
  | p + 1, u, g, hp, h => by
    rw [own, mGet_set] at h
    split at h
    · cases h; omega
    · exact own_lt (by omega) h
theorem edgeAt_eq {fcs : List V3} {i k : Nat} {f : V3} (h : fcs[i]? = some f) (hk : k < 3) : edgeAt fcs (3 * i + k) = f.edge k := by
  have h1 : (3 * i + k) / 3 = i := by omega
  have h2 : (3 * i + k) % 3 = k := by omega
  simp [edgeAt, h, h1, h2]
theorem open_none {fcs : List V3} (h : openF fcs (ownF fcs) = none) : ∀ f ∈ fcs, ∀ k, k < 3 → ∃ g, g < fcs.length ∧ mGet (ownF fcs) (f.edge k).swap = some g := by
  intro f hf k hk
  obtain ⟨i, hi⟩ := List.mem_iff_getElem?.1 hf
  have hlt : i < fcs.length := (List.getElem?_eq_some_iff.1 hi).1
  simp only [openF, Option.map_eq_none_iff, openP] at h
  have h1 := List.find?_eq_none.1 h (3 * i + k) (by simp; omega)
  rw [sole, edgeAt_eq hi hk] at h1
  obtain ⟨g, hg⟩ := Option.ne_none_iff_exists'.1 (show mGet (ownF fcs) (f.edge k).swap ≠ none by simpa using h1)
  refine ⟨g, own_lt (p := (twiceP fcs).getD (3 * fcs.length)) ?_ hg, hg⟩
  cases ht : twiceP fcs with
  | none => simp
  | some p =>
    have := List.mem_of_find?_eq_some ht
    simp at this
    simp; omega
/-- the number of the error for a mesh with a flaw -/
def chkM (pts fcs : List V3) : Int := if (flawM pts fcs).1 = 0 then 0 else 350
section
variable {P : Program} {N : Ctx} {w0 : World} {e : Env} {As : List Ent} {ty : TypeId} {x y : Operand} {v : Value} {α : Type} {c : Cod α} {xs : List α}
/-- what comes back is a slice of so many elements -/
theorem CallsS.sl {f : FuncId} {args : List Value} {K : Value → List Ent → Prop} (h : CallsS P w0 f args As K) (hK : ∀ v Bs, K v Bs → RdIn Bs v α c xs) : CallsS P w0 f args As (fun v Bs => ∃ p cap, v = .slice p xs.length cap ∧ K v Bs) := CallsS.mk fun w hs =>
  (h.out w hs).mono fun en w' ⟨v, Bs, h1, h2, h3⟩ => by
    obtain ⟨p, cap, hv, _⟩ := ((hK v Bs h2).get w0 w' h3).len
    exact ⟨v, Bs, h1, ⟨p, cap, hv, h2⟩, h3⟩
/-- a slice against nil: where it is nil it is empty -/
theorem ExR.eqlNil {t el t' : TypeId} [UL P t (.slice el)] [hr : RdIn As v α c xs] (hx : ev e x = some v) (hy : ev e y = some (.slice none 0 0)) : ExR P N w0 (.binOp .eql t x y t') ty e As (fun u As' => ∃ b : Bool, u = .bool b ∧ (b = true → xs = []) ∧ As' = As) := by
  unfold ExR
  intro a w ha hs d pos af g
  rcases hr.get w0 w hs with ⟨⟨p, rfl⟩, rfl⟩ | ⟨b, off, cap, front, rest, T, fr, rfl, h2, h3, h4⟩
  · exact ⟨.bool p.isNone, w, As, by simp [execOp, ha.eval hx, ha.eval hy, eqGuard, Lib.run_eql_slice_nil w t el p 0 0 0 0 UL.h], ⟨_, rfl, fun _ => rfl, rfl⟩, hs⟩
  · exact ⟨.bool false, w, As, by simp [execOp, ha.eval hx, ha.eval hy, eqGuard, Lib.run_eql_slice_nil w t el (some ⟨b, off, none⟩) xs.length cap 0 0 UL.h], ⟨_, rfl, (fun h => by cases h), rfl⟩, hs⟩
end
end Go.Sx
