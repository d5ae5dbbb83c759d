/- Meshes, plain: edges, their owners, corners, reached faces. -/
import Derived.Test.YtolchkdndnjhbaaDoorMp1
import Derived.Test.YtolchkdndnjhbaaDoorSx8
namespace Go.Sx
open Go
abbrev Edg := Int × Int
def cE (u : Edg) : Value := .agg #[.int .i64 u.1, .int .i64 u.2]
def cNv (n : Nat) : Value := .int .i64 (n : Int)
instance {a b : Int} : EncV cE (.agg #[.int .i64 a, .int .i64 b]) (a, b) := ⟨rfl⟩
instance {n : Nat} : EncV cNv (.int .i64 (n : Int)) n := ⟨rfl⟩
instance : EncV cNv (.int .i64 0) 0 := ⟨rfl⟩
section
variable {P : Program} {w : World}
theorem run_eqE' {t el : TypeId} {z : Value} {b : Nat} [UL P t (.array 2 el)] [UL P el (.int .i64)] [TI P el z 1 b] (d : Nat) (p q : Edg) : (Op.equalIn (d + 1 + 1) t (cE p) (cE q)).run P w = .ok (decide (p = q)) w := by
  have hp : ∀ (r : Edg) (i : Nat) (v : Value), (#[Value.int .i64 r.1, .int .i64 r.2] : Array Value)[i]? = some v → (part el #[Value.int .i64 r.1, .int .i64 r.2] i).run P w = .ok v w := fun r i v h => run_partI _ _ h
  have p0 := fun r => hp r 0 _ rfl
  have p1 := fun r => hp r 1 _ rfl
  obtain ⟨pa, pb⟩ := p
  obtain ⟨qa, qb⟩ := q
  unfold Op.equalIn
  simp only [cE, Sem.run_bind, run_und, Result.andThen_ok]
  simp only [run_size, Result.andThen_ok]
  have p0p := p0 (pa, pb)
  have p0q := p0 (qa, qb)
  have p1p := p1 (pa, pb)
  have p1q := p1 (qa, qb)
  simp only at p0p p0q p1p p1q
  simp [Std.Legacy.Range.forIn_eq_forIn_range', List.range'_succ, p0p, p0q, run_eqI]
  by_cases h0 : pa = qa <;> by_cases h1 : pb = qb
  · subst h0 h1; simp [p1p, run_eqI]
  · subst h0; simp [h1, p1p, p1q, run_eqI]
  · simp [h0]
  · simp [h0]
instance {t el : TypeId} {z : Value} {b : Nat} [UL P t (.array 2 el)] [UL P el (.int .i64)] [TI P el z 1 b] : KeyT P t Edg cE where
  check em k w := by
    have hp : ∀ (i : Nat) (v : Value), (#[Value.int .i64 k.1, .int .i64 k.2] : Array Value)[i]? = some v → (part el #[Value.int .i64 k.1, .int .i64 k.2] i).run P w = .ok v w := fun i v h => run_partI _ _ h
    have p0 := hp 0 _ rfl
    have p1 := hp 1 _ rfl
    have hc : ∀ (n : Nat) (a : Int), (Instr.checkKey em (n + 1) el (.int .i64 a)).run P w = .ok () w := fun n a => by simp [Instr.checkKey, run_und]
    have h2 : (sizeOf el).run P w = .ok 1 w := run_size
    show (Instr.checkKey em (9998 + 1 + 1) t (cE k)).run P w = .ok () w
    unfold Instr.checkKey
    simp only [cE, Sem.run_bind, run_und, Result.andThen_ok]
    simp [Std.Legacy.Range.forIn_eq_forIn_range', List.range'_succ, p0, p1, hc, h2]
  same k := by
    have h1 : Instr.sameBits 10000 (cE k) (cE k) = ((IntKind.i64 == IntKind.i64 && k.1 == k.1) && ((IntKind.i64 == IntKind.i64 && k.2 == k.2) && true)) := by rfl
    rw [h1]
    simp
  find := ⟨_, UL.h (P := P) (t := t), .inr ⟨fun a b => rfl, fun a b w => run_eqE' 9998 a b⟩⟩
end

theorem findR_some {n p : Nat} {q : Nat → Bool} (hp : p < n) (hq : q p = true) (h : ∀ j, j < p → q j = false) : (List.range n).find? q = some p := by
  rw [List.find?_eq_some_iff_getElem]
  refine ⟨hq, p, by simpa using hp, by simp, fun j hj => by simp [h j hj]⟩
theorem findR_none {n : Nat} {q : Nat → Bool} (h : ∀ j, j < n → q j = false) : (List.range n).find? q = none := by
  rw [List.find?_eq_none]
  intro x hx
  simp [h x (by simpa using hx)]

/-- the edge p: the edge p % 3 of the face p / 3 -/
def V3.edge (f : V3) (k : Nat) : Edg := if k = 0 then (f.x, f.y) else if k = 1 then (f.y, f.z) else (f.z, f.x)
def edgeAt (fcs : List V3) (p : Nat) : Edg := match fcs[p / 3]? with
  | some f => f.edge (p % 3)
  | none => (0, 0)
theorem edgeAt0 {fcs : List V3} {i : Nat} {f : V3} (h : fcs[i]? = some f) : edgeAt fcs (3 * i) = (f.x, f.y) := by
  simp [edgeAt, V3.edge, h]
theorem edgeAt1 {fcs : List V3} {i : Nat} {f : V3} (h : fcs[i]? = some f) : edgeAt fcs (3 * i + 1) = (f.y, f.z) := by
  have h1 : (3 * i + 1) / 3 = i := by omega
  have h2 : (3 * i + 1) % 3 = 1 := by omega
  simp [edgeAt, V3.edge, h, h1, h2]
theorem edgeAt2 {fcs : List V3} {i : Nat} {f : V3} (h : fcs[i]? = some f) : edgeAt fcs (3 * i + 2) = (f.z, f.x) := by
  have h1 : (3 * i + 2) / 3 = i := by omega
  have h2 : (3 * i + 2) % 3 = 2 := by omega
  simp [edgeAt, V3.edge, h, h1, h2]
/-- the owners of the edges before p -/
def own (fcs : List V3) : Nat → List (Edg × Nat)
  | 0 => []
  | p + 1 => mSet (own fcs p) (edgeAt fcs p) (p / 3)
def dup (fcs : List V3) (p : Nat) : Bool := (mGet (own fcs p) (edgeAt fcs p)).isSome
def twiceP (fcs : List V3) : Option Nat := (List.range (3 * fcs.length)).find? (dup fcs)
def twiceF (fcs : List V3) : Option Nat := (twiceP fcs).map (· / 3)
/-- the owners that 'twice' leaves -/
def ownF (fcs : List V3) : List (Edg × Nat) := own fcs ((twiceP fcs).getD (3 * fcs.length))
def sole (fcs : List V3) (l : List (Edg × Nat)) (p : Nat) : Bool := !(mGet l (edgeAt fcs p).swap).isSome
def openP (fcs : List V3) (l : List (Edg × Nat)) : Option Nat := (List.range (3 * fcs.length)).find? (sole fcs l)
def openF (fcs : List V3) (l : List (Edg × Nat)) : Option Nat := (openP fcs l).map (· / 3)
end Go.Sx
