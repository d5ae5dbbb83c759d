/- Meshes, plain: points and faces as lists of V3; what the program's tests compute. -/
import Derived.Test.YtolchkdndnjhbaaDoorSx9
namespace Go.Sx
open Go
structure V3 where
  x : Int
  y : Int
  z : Int
deriving DecidableEq
def V3.val (p : V3) : Value := .agg #[.int .i64 p.x, .int .i64 p.y, .int .i64 p.z]
def cV3 : Cod V3 := ⟨3, fun p => [.int .i64 p.x, .int .i64 p.y, .int .i64 p.z], fun _ => rfl, fun p v hv => by
  simp only [List.mem_cons, List.not_mem_nil, or_false] at hv
  rcases hv with rfl | rfl | rfl <;> rfl⟩
instance {p : V3} : EncL cV3 p [.int .i64 p.x, .int .i64 p.y, .int .i64 p.z] := ⟨rfl⟩
instance {a b d : Int} : DecL cV3 [.int .i64 a, .int .i64 b, .int .i64 d] ⟨a, b, d⟩ := ⟨rfl⟩
/-- all three are ints -/
def V3.ok (p : V3) : Prop := IR .i64 p.x ∧ IR .i64 p.y ∧ IR .i64 p.z

theorem find_none {α : Type} {p : α → Bool} {l : List α} (h : ∀ (j : Nat) (x : α), l[j]? = some x → p x = false) : l.findIdx? p = none := by
  rw [List.findIdx?_eq_none_iff]
  intro x hx
  obtain ⟨j, hj⟩ := List.mem_iff_getElem?.1 hx
  exact h j x hj
theorem find_some {α : Type} {p : α → Bool} {l : List α} {k : Nat} {x : α} (hk : l[k]? = some x) (hx : p x = true) (h : ∀ (j : Nat) (y : α), j < k → l[j]? = some y → p y = false) : l.findIdx? p = some k := by
  rw [List.findIdx?_eq_some_iff_getElem]
  obtain ⟨hlt, he⟩ := List.getElem?_eq_some_iff.1 hk
  refine ⟨hlt, by rw [he]; exact hx, fun j hj => ?_⟩
  have := h j _ hj (List.getElem?_eq_getElem (by omega))
  simp [this]
/-- what a test of a mesh returns -/
def found (o : Option Nat) : Value := .tuple #[.int .i64 ((o.getD 0 : Nat) : Int), .bool o.isSome]

def isFar (p : V3) : Bool := decide (p.x < -200000) || decide (200000 < p.x) || decide (p.y < -200000) || decide (200000 < p.y) || decide (p.z < -200000) || decide (200000 < p.z)
def farF (pts : List V3) : Option Nat := pts.findIdx? isFar
/-- a face's indices are wrong -/
def isWrong (n : Nat) (f : V3) : Bool := decide (f.x < 0) || decide ((n : Int) ≤ f.x) || decide (f.y < 0) || decide ((n : Int) ≤ f.y) || decide (f.z < 0) || decide ((n : Int) ≤ f.z) || decide (f.x = f.y) || decide (f.y = f.z) || decide (f.z = f.x)
def wrongF (n : Nat) (fcs : List V3) : Option Nat := fcs.findIdx? (isWrong n)
def V3.sub (a b : V3) : V3 := ⟨a.x - b.x, a.y - b.y, a.z - b.z⟩
def V3.cross (a b : V3) : V3 := ⟨a.y * b.z - a.z * b.y, a.z * b.x - a.x * b.z, a.x * b.y - a.y * b.x⟩
def V3.dot (a b : V3) : Int := a.x * b.x + a.y * b.y + a.z * b.z
def V3.zero : V3 := ⟨0, 0, 0⟩
/-- the i-th point (0, 0, 0 if there is none) -/
def ptAt (pts : List V3) (i : Int) : V3 := (pts[i.toNat]?).getD V3.zero
def normal (pts : List V3) (f : V3) : V3 := ((ptAt pts f.y).sub (ptAt pts f.x)).cross ((ptAt pts f.z).sub (ptAt pts f.x))
def isFlat (pts : List V3) (f : V3) : Bool := decide (normal pts f = V3.zero)
def flatF (pts fcs : List V3) : Option Nat := fcs.findIdx? (isFlat pts)
/-- coordinates within n -/
def V3.in (n : Int) (p : V3) : Prop := -n ≤ p.x ∧ p.x ≤ n ∧ -n ≤ p.y ∧ p.y ≤ n ∧ -n ≤ p.z ∧ p.z ≤ n
theorem mul_in {a b m n : Int} (hm : 0 ≤ m) (hn : 0 ≤ n) (h1 : -m ≤ a) (h2 : a ≤ m) (h3 : -n ≤ b) (h4 : b ≤ n) : -(m * n) ≤ a * b ∧ a * b ≤ m * n := by
  have e1 : a * b ≤ m * n ∧ -(m * n) ≤ a * b := by
    rcases Int.le_total 0 a with ha | ha <;> rcases Int.le_total 0 b with hb | hb
    · have p1 := Int.mul_le_mul h2 h4 hb hm
      have p2 := Int.mul_nonneg ha hb
      have p3 := Int.mul_nonneg hm hn
      omega
    · have hb' : 0 ≤ -b := by omega
      have p1 := Int.mul_le_mul h2 (show -b ≤ n by omega) hb' hm
      have p2 := Int.mul_nonneg ha hb'
      have p3 := Int.mul_nonneg hm hn
      have e : a * -b = -(a * b) := Int.mul_neg a b
      omega
    · have ha' : 0 ≤ -a := by omega
      have p1 := Int.mul_le_mul (show -a ≤ m by omega) h4 hb hm
      have p2 := Int.mul_nonneg ha' hb
      have p3 := Int.mul_nonneg hm hn
      have e : -a * b = -(a * b) := Int.neg_mul a b
      omega
    · have ha' : 0 ≤ -a := by omega
      have hb' : 0 ≤ -b := by omega
      have p1 := Int.mul_le_mul (show -a ≤ m by omega) (show -b ≤ n by omega) hb' hm
      have p2 := Int.mul_nonneg ha' hb'
      have p3 := Int.mul_nonneg hm hn
      have e : -a * -b = a * b := by rw [Int.neg_mul_neg]
      omega
  exact ⟨e1.2, e1.1⟩
theorem sub_in {m n : Int} {a b : V3} (h : a.in m) (k : b.in n) : (a.sub b).in (m + n) := by
  obtain ⟨h1, h2, h3, h4, h5, h6⟩ := h
  obtain ⟨k1, k2, k3, k4, k5, k6⟩ := k
  refine ⟨?_, ?_, ?_, ?_, ?_, ?_⟩ <;> simp only [V3.sub] <;> omega
theorem cross_in {m n : Int} (hm : 0 ≤ m) (hn : 0 ≤ n) {a b : V3} (h : a.in m) (k : b.in n) : (a.cross b).in (2 * (m * n)) := by
  obtain ⟨h1, h2, h3, h4, h5, h6⟩ := h
  obtain ⟨k1, k2, k3, k4, k5, k6⟩ := k
  have a1 := mul_in hm hn h3 h4 k5 k6
  have a2 := mul_in hm hn h5 h6 k3 k4
  have a3 := mul_in hm hn h5 h6 k1 k2
  have a4 := mul_in hm hn h1 h2 k5 k6
  have a5 := mul_in hm hn h1 h2 k3 k4
  have a6 := mul_in hm hn h3 h4 k1 k2
  refine ⟨?_, ?_, ?_, ?_, ?_, ?_⟩ <;> simp only [V3.cross] <;> omega
/-! comparing points -/
class NG (P : Program) (t : TypeId) : Prop where
  h : P.eqGuardType P.depth t = false
section
variable {P : Program} {N : Ctx} {w0 : World} {e : Env} {As : List Ent} {ty : TypeId} {x y : Operand} {w : World}
theorem run_eqI {t : TypeId} {k : IntKind} [UL P t (.int k)] (d : Nat) (a b : Int) : (Op.equalIn (d + 1) t (.int k a) (.int k b)).run P w = .ok (a == b) w := by
  simp [Op.equalIn, run_und]
theorem run_partI {t : TypeId} {k : IntKind} [UL P t (.int k)] (cs : Array Value) (i : Nat) {v : Value} (h : cs[i]? = some v) : (part t cs i).run P w = .ok v w := by
  simp [part, run_agg, aggB, h]
theorem V3.eq_iff {p q : V3} : p = q ↔ p.x = q.x ∧ p.y = q.y ∧ p.z = q.z := by
  cases p; cases q; simp
theorem run_eqV3' {t el : TypeId} {z : Value} {b : Nat} [UL P t (.array 3 el)] [UL P el (.int .i64)] [TI P el z 1 b] (d : Nat) (p q : V3) : (Op.equalIn (d + 1 + 1) t p.val q.val).run P w = .ok (decide (p = q)) w := by
  have hp : ∀ (r : V3) (i : Nat) (v : Value), (#[Value.int .i64 r.x, .int .i64 r.y, .int .i64 r.z] : Array Value)[i]? = some v → (part el #[Value.int .i64 r.x, .int .i64 r.y, .int .i64 r.z] i).run P w = .ok v w := fun r i v h => run_partI _ _ h
  have p0 := fun r => hp r 0 _ rfl
  have p1 := fun r => hp r 1 _ rfl
  have p2 := fun r => hp r 2 _ rfl
  unfold Op.equalIn
  simp only [V3.val, Sem.run_bind, run_und, Result.andThen_ok]
  simp only [run_size, Result.andThen_ok]
  simp [Std.Legacy.Range.forIn_eq_forIn_range', List.range'_succ, p0, p1, p2, run_eqI, V3.eq_iff]
  by_cases h0 : p.x = q.x <;> by_cases h1 : p.y = q.y <;> by_cases h2 : p.z = q.z <;> simp [h0, h1, h2, p0, p1, p2, run_eqI]
theorem run_eqV3 {t el : TypeId} {z : Value} {b : Nat} [UL P t (.array 3 el)] [UL P el (.int .i64)] [TI P el z 1 b] (p q : V3) : (Op.equal t p.val q.val).run P w = .ok (decide (p = q)) w := run_eqV3' 9998 p q
theorem run_guardV3 {t : TypeId} [h : NG P t] (op : BinOp) (x y : Operand) (p q : V3) : (eqGuard op t x y p.val q.val).run P w = .ok () w := by
  unfold eqGuard
  cases op <;> simp [V3.val, h.h]
theorem ExF.eqlV3 {t el t' : TypeId} {z : Value} {b : Nat} [UL P t (.array 3 el)] [UL P el (.int .i64)] [TI P el z 1 b] [NG P t] (p q : V3) (hx : ev e x = some p.val) (hy : ev e y = some q.val) : ExF P N w0 (.binOp .eql t x y t') ty e As (.bool (decide (p = q))) := by
  unfold ExF
  intro a w ha hs d pos af g
  have h1 : binOp .eql t p.val q.val = (do pure (.bool (← Op.equal t p.val q.val))) := rfl
  simp only [execOp, ha.eval hx, ha.eval hy, Sem.run_bind, run_guardV3, Result.andThen_ok, h1, run_eqV3]
  rfl
theorem ExF.neqV3 {t el t' : TypeId} {z : Value} {b : Nat} [UL P t (.array 3 el)] [UL P el (.int .i64)] [TI P el z 1 b] [NG P t] (p q : V3) (hx : ev e x = some p.val) (hy : ev e y = some q.val) : ExF P N w0 (.binOp .neq t x y t') ty e As (.bool !(decide (p = q))) := by
  unfold ExF
  intro a w ha hs d pos af g
  have h1 : binOp .neq t p.val q.val = (do pure (.bool (!(← Op.equal t p.val q.val)))) := rfl
  simp only [execOp, ha.eval hx, ha.eval hy, Sem.run_bind, run_guardV3, Result.andThen_ok, h1, run_eqV3]
  rfl
/-- the same, the cells written out -/
theorem ExF.eqlA3 {t el t' : TypeId} {z : Value} {b : Nat} {a1 a2 a3 b1 b2 b3 : Int} [UL P t (.array 3 el)] [UL P el (.int .i64)] [TI P el z 1 b] [NG P t] (hx : ev e x = some (.agg #[.int .i64 a1, .int .i64 a2, .int .i64 a3])) (hy : ev e y = some (.agg #[.int .i64 b1, .int .i64 b2, .int .i64 b3])) :
    ExF P N w0 (.binOp .eql t x y t') ty e As (.bool (decide ((⟨a1, a2, a3⟩ : V3) = ⟨b1, b2, b3⟩))) := ExF.eqlV3 ⟨a1, a2, a3⟩ ⟨b1, b2, b3⟩ hx hy
theorem ExF.neqA3 {t el t' : TypeId} {z : Value} {b : Nat} {a1 a2 a3 b1 b2 b3 : Int} [UL P t (.array 3 el)] [UL P el (.int .i64)] [TI P el z 1 b] [NG P t] (hx : ev e x = some (.agg #[.int .i64 a1, .int .i64 a2, .int .i64 a3])) (hy : ev e y = some (.agg #[.int .i64 b1, .int .i64 b2, .int .i64 b3])) :
    ExF P N w0 (.binOp .neq t x y t') ty e As (.bool !(decide ((⟨a1, a2, a3⟩ : V3) = ⟨b1, b2, b3⟩))) := ExF.neqV3 ⟨a1, a2, a3⟩ ⟨b1, b2, b3⟩ hx hy
end
end Go.Sx
