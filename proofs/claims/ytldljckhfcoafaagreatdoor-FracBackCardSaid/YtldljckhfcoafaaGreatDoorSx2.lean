/- The engine, part 2: what single operations do. ExF: a value, nothing else. ExU: no value, the entries change. ExR: a value and new entries. -/
import Derived.Test.YtldljckhfcoafaaGreatDoorSx1
import Derived.Laws.CopyRow
import Derived.Laws.Bits
import Derived.WalkKit
import Derived.LoopN
namespace Go.Sx
open Go

/-! ### the tables of the program -/
class UL (P : Program) (t : TypeId) (d : outParam TypeDesc) : Prop where
  h : P.underlying t = some d
class TI (P : Program) (t : TypeId) (z : outParam Value) (n b : outParam Nat) : Prop where
  h : (P.info? t).map (fun i => (i.zero, i.size, i.bytes)) = some (some z, n, b)
class FO (P : Program) (s : TypeId) (f : Nat) (k n : outParam Nat) : Prop where
  h : ∃ fields fld, P.underlying s = some (.struct fields) ∧ fields[f]? = some fld ∧ fld.offset = k ∧ (∃ i, P.info? fld.type = some i ∧ i.size = n) ∧ n ≠ 0
def aggB : TypeDesc → Bool
  | .struct _ | .array _ _ => true
  | _ => false
section
variable {P : Program} {N : Ctx} {w0 : World} {w : World}
theorem TI.info {t : TypeId} {z : Value} {n b : Nat} (h : TI P t z n b) : ∃ i, P.info? t = some i ∧ i.zero = some z ∧ i.size = n ∧ i.bytes = b := by
  have := h.h
  cases hq : P.info? t with
  | none => rw [hq] at this; cases this
  | some i => rw [hq] at this; simp at this; exact ⟨i, rfl, this.1, this.2.1, this.2.2⟩
theorem run_und {t : TypeId} {d : TypeDesc} [h : UL P t d] : (underlying t).run P w = .ok d w := run_underlying h.h w
theorem run_agg {t : TypeId} {d : TypeDesc} [h : UL P t d] : (isAgg t).run P w = .ok (aggB d) w := by
  unfold isAgg
  simp only [Sem.run_bind, run_und, Result.andThen_ok]
  cases d <;> rfl
theorem run_size {t : TypeId} {z : Value} {n b : Nat} [h : TI P t z n b] : (sizeOf t).run P w = .ok n w := by
  obtain ⟨i, h1, _, h2, _⟩ := h.info
  simp [sizeOf, typeInfo, h1, h2]
theorem run_zero {t : TypeId} {z : Value} {n b : Nat} [h : TI P t z n b] : (zeroValue t).run P w = .ok z w := by
  obtain ⟨i, h1, h2, _, _⟩ := h.info
  simp [zeroValue, typeInfo, h1, h2]
end

theorem Body.mk' {P : Program} {f : FuncId} {fn : Func} (hf : P.funcs[f]? = some fn) (h1 : (fn.name == "runtime.NumGoroutine") = false) (h2 : fn.body.isNone = false) : Body P f := ⟨fun args w => by
  simp only [callFunc, Sem.run_bind, run_program, Result.andThen_ok, hf, h1, h2]
  rfl⟩

/-! ### judgements on one operation -/
section
variable {P : Program} {N : Ctx} {w0 : World} {e : Env} {As As' rest : List Ent} {Q : Exit → Act → World → Prop} {ty : TypeId}
def ExF (P : Program) (N : Ctx) (w0 : World) (op : Op) (ty : TypeId) (e : Env) (As : List Ent) (v : Value) : Prop :=
  ∀ a w, OkA N a e → St w0 w As → ∀ d pos af g, (execOp a.eval ⟨d, op, ty, pos, af, g⟩).run P w = .ok (.value v) w
def ExU (P : Program) (N : Ctx) (w0 : World) (op : Op) (ty : TypeId) (e : Env) (As As' : List Ent) : Prop :=
  ∀ a w, OkA N a e → St w0 w As → ∀ d pos af g, ∃ w', (execOp a.eval ⟨d, op, ty, pos, af, g⟩).run P w = .ok .skip w' ∧ St w0 w' As'
def ExR (P : Program) (N : Ctx) (w0 : World) (op : Op) (ty : TypeId) (e : Env) (As : List Ent) (R : Value → List Ent → Prop) : Prop :=
  ∀ a w, OkA N a e → St w0 w As → ∀ d pos af g, ∃ v w' As', (execOp a.eval ⟨d, op, ty, pos, af, g⟩).run P w = .ok (.value v) w' ∧ R v As' ∧ St w0 w' As'
variable {ops : Array Oper} {r : List Oper} {op : Op} {pos : String} {af : Array Edge} {g : Option (Nat × Bool)} {d : Nat} {v : Value}
theorem TL.f (hg : gOk ops e g = some true) (hN : Nat.blt d N.N = true) (hx : ExF P N w0 op ty e As v) (h : TL P N w0 ops r ((d, v) :: e) As Q) : TL P N w0 ops (⟨some d, op, ty, pos, af, g⟩ :: r) e As Q :=
  TL.val hg rfl hN (fun a w ha hs => ⟨w, hx a w ha hs _ _ _ _, hs⟩) h
theorem TL.u (hg : gOk ops e g = some true) (hx : ExU P N w0 op ty e As As') (h : TL P N w0 ops r e As' Q) : TL P N w0 ops (⟨none, op, ty, pos, af, g⟩ :: r) e As Q :=
  TL.unit hg rfl (fun a w ha hs => hx a w ha hs _ _ _ _) h
theorem TL.rr {R : Value → List Ent → Prop} (hg : gOk ops e g = some true) (hN : Nat.blt d N.N = true) (hx : ExR P N w0 op ty e As R) (h : ∀ v As', R v As' → TL P N w0 ops r ((d, v) :: e) As' Q) : TL P N w0 ops (⟨some d, op, ty, pos, af, g⟩ :: r) e As Q :=
  TL.valR R hg rfl hN (fun a w ha hs => hx a w ha hs _ _ _ _) h
/-- a value with one new block -/
def RB (f : Nat → Value) (A : Nat → List Ent) (v : Value) (As' : List Ent) : Prop := ∃ b, v = f b ∧ As' = A b
theorem TL.rb {f : Nat → Value} {A : Nat → List Ent} (hg : gOk ops e g = some true) (hN : Nat.blt d N.N = true) (hx : ExR P N w0 op ty e As (RB f A)) (h : ∀ b, TL P N w0 ops r ((d, f b) :: e) (A b) Q) : TL P N w0 ops (⟨some d, op, ty, pos, af, g⟩ :: r) e As Q :=
  TL.rr hg hN hx (fun _ _ ⟨b, h1, h2⟩ => by subst h1; subst h2; exact h b)
theorem TL.off' (hg : gOk ops e g = some false) (hN : Nat.blt d N.N = true) (h : TL P N w0 ops r ((d, undef) :: e) As Q) : TL P N w0 ops (⟨some d, op, ty, pos, af, g⟩ :: r) e As Q := TL.off hg rfl hN h
theorem TL.off0' (hg : gOk ops e g = some false) (h : TL P N w0 ops r e As Q) : TL P N w0 ops (⟨none, op, ty, pos, af, g⟩ :: r) e As Q := TL.off0 hg rfl h
/-! ### only values -/
variable {x y z : Operand} {u : Value}
theorem ExF.move (hx : ev e x = some v) : ExF P N w0 (.move x) ty e As v := fun a w ha _ d pos af g => by simp only [execOp, ha.eval hx]; rfl
theorem ExF.assign (hx : ev e x = some v) : ExF P N w0 (.assign x) ty e As v := fun a w ha _ d pos af g => by simp only [execOp, ha.eval hx]; rfl
theorem ExF.pick1 (hx : ev e x = some (.bool true)) (hy : ev e y = some v) : ExF P N w0 (.pick x y z) ty e As v := fun a w ha _ d pos af g => by
  simp [execOp, ha.eval hx, ha.eval hy, asBool]
theorem ExF.pick0 (hx : ev e x = some (.bool false)) (hy : ev e z = some v) : ExF P N w0 (.pick x y z) ty e As v := fun a w ha _ d pos af g => by
  simp [execOp, ha.eval hx, ha.eval hy, asBool]
theorem ExF.pickT {p : Prop} [Decidable p] (hx : ev e x = some (.bool (decide p))) (h : p) (hy : ev e y = some v) : ExF P N w0 (.pick x y z) ty e As v := fun a w ha _ d pos af g => by
  simp [execOp, ha.eval hx, ha.eval hy, asBool, h]
theorem ExF.pickF {p : Prop} [Decidable p] (hx : ev e x = some (.bool (decide p))) (h : ¬ p) (hy : ev e z = some v) : ExF P N w0 (.pick x y z) ty e As v := fun a w ha _ d pos af g => by
  simp [execOp, ha.eval hx, ha.eval hy, asBool, h]
theorem ExF.pickNT {p : Prop} [Decidable p] (hx : ev e x = some (.bool !(decide p))) (h : ¬ p) (hy : ev e y = some v) : ExF P N w0 (.pick x y z) ty e As v := fun a w ha _ d pos af g => by
  simp [execOp, ha.eval hx, ha.eval hy, asBool, h]
theorem ExF.pickNF {p : Prop} [Decidable p] (hx : ev e x = some (.bool !(decide p))) (h : p) (hy : ev e z = some v) : ExF P N w0 (.pick x y z) ty e As v := fun a w ha _ d pos af g => by
  simp [execOp, ha.eval hx, ha.eval hy, asBool, h]
section
variable {k : IntKind} {m n : Int} {t t' : TypeId}
theorem ExF.add (hx : ev e x = some (.int k m)) (hy : ev e y = some (.int k n)) : ExF P N w0 (.binOp .add t x y t') ty e As (.int k (k.wrap (m + n))) := fun a w ha _ d pos af g => by
  simp [execOp, ha.eval hx, ha.eval hy, eqGuard, binOp, Op.intArith]
theorem ExF.sub (hx : ev e x = some (.int k m)) (hy : ev e y = some (.int k n)) : ExF P N w0 (.binOp .sub t x y t') ty e As (.int k (k.wrap (m - n))) := fun a w ha _ d pos af g => by
  simp [execOp, ha.eval hx, ha.eval hy, eqGuard, binOp, Op.intArith]
theorem ExF.mul (hx : ev e x = some (.int k m)) (hy : ev e y = some (.int k n)) : ExF P N w0 (.binOp .mul t x y t') ty e As (.int k (k.wrap (m * n))) := fun a w ha _ d pos af g => by
  simp [execOp, ha.eval hx, ha.eval hy, eqGuard, binOp, Op.intArith]
theorem ExF.quo (hx : ev e x = some (.int k m)) (hy : ev e y = some (.int k n)) (h0 : n ≠ 0) : ExF P N w0 (.binOp .quo t x y t') ty e As (.int k (k.wrap (m.tdiv n))) := fun a w ha _ d pos af g => by
  simp [execOp, ha.eval hx, ha.eval hy, eqGuard, binOp, Op.intDiv, h0]
theorem ExF.rem (hx : ev e x = some (.int k m)) (hy : ev e y = some (.int k n)) (h0 : n ≠ 0) : ExF P N w0 (.binOp .rem t x y t') ty e As (.int k (m.tmod n)) := fun a w ha _ d pos af g => by
  simp [execOp, ha.eval hx, ha.eval hy, eqGuard, binOp, Op.intDiv, h0]
/-- the number is one of its kind -/
def IR : IntKind → Int → Prop
  | .i64, x => -9223372036854775808 ≤ x ∧ x ≤ 9223372036854775807
  | .i32, x => -2147483648 ≤ x ∧ x ≤ 2147483647
  | .i16, x => -32768 ≤ x ∧ x ≤ 32767
  | .i8, x => -128 ≤ x ∧ x ≤ 127
  | .u64, x => 0 ≤ x ∧ x ≤ 18446744073709551615
  | .u32, x => 0 ≤ x ∧ x ≤ 4294967295
  | .u16, x => 0 ≤ x ∧ x ≤ 65535
  | .u8, x => 0 ≤ x ∧ x ≤ 255
theorem wrap_of_IR {x : Int} (h : IR k x) : k.wrap x = x := by
  cases k <;> simp only [IR] at h <;> simp [IntKind.wrap, IntKind.bits, IntKind.signed, Int.bmod] <;> omega
theorem IR.wrap {x : Int} : IR k (k.wrap x) := by
  cases k <;> simp only [IR] <;> simp [IntKind.wrap, IntKind.bits, IntKind.signed, Int.bmod] <;> omega
theorem ExF.addR (hx : ev e x = some (.int k m)) (hy : ev e y = some (.int k n)) (h : IR k (m + n)) : ExF P N w0 (.binOp .add t x y t') ty e As (.int k (m + n)) := by
  have := ExF.add (P := P) (N := N) (w0 := w0) (As := As) (ty := ty) (t := t) (t' := t') hx hy; rwa [wrap_of_IR h] at this
theorem ExF.subR (hx : ev e x = some (.int k m)) (hy : ev e y = some (.int k n)) (h : IR k (m - n)) : ExF P N w0 (.binOp .sub t x y t') ty e As (.int k (m - n)) := by
  have := ExF.sub (P := P) (N := N) (w0 := w0) (As := As) (ty := ty) (t := t) (t' := t') hx hy; rwa [wrap_of_IR h] at this
theorem ExF.mulR (hx : ev e x = some (.int k m)) (hy : ev e y = some (.int k n)) (h : IR k (m * n)) : ExF P N w0 (.binOp .mul t x y t') ty e As (.int k (m * n)) := by
  have := ExF.mul (P := P) (N := N) (w0 := w0) (As := As) (ty := ty) (t := t) (t' := t') hx hy; rwa [wrap_of_IR h] at this
theorem ExF.quoR (hx : ev e x = some (.int k m)) (hy : ev e y = some (.int k n)) (h1 : 0 ≤ m) (h0 : 0 < n) (h : IR k m) : ExF P N w0 (.binOp .quo t x y t') ty e As (.int k (m / n)) := by
  have := ExF.quo (P := P) (N := N) (w0 := w0) (As := As) (ty := ty) (t := t) (t' := t') hx hy (by omega)
  rw [Int.tdiv_eq_ediv_of_nonneg h1] at this
  rwa [wrap_of_IR] at this
  have a1 : 0 ≤ m / n := Int.ediv_nonneg h1 (by omega)
  have a2 : m / n ≤ m := Int.ediv_le_self _ h1
  cases k <;> simp only [IR] at h ⊢ <;> omega
theorem ExF.remR (hx : ev e x = some (.int k m)) (hy : ev e y = some (.int k n)) (h1 : 0 ≤ m) (h0 : 0 < n) : ExF P N w0 (.binOp .rem t x y t') ty e As (.int k (m % n)) := by
  have := ExF.rem (P := P) (N := N) (w0 := w0) (As := As) (ty := ty) (t := t) (t' := t') hx hy (by omega)
  rwa [Int.tmod_eq_emod_of_nonneg h1] at this
theorem ExF.lss (hx : ev e x = some (.int k m)) (hy : ev e y = some (.int k n)) : ExF P N w0 (.binOp .lss t x y t') ty e As (.bool (decide (m < n))) := fun a w ha _ d pos af g => by
  simp [execOp, ha.eval hx, ha.eval hy, eqGuard, binOp, Op.intCmp]
theorem ExF.leq (hx : ev e x = some (.int k m)) (hy : ev e y = some (.int k n)) : ExF P N w0 (.binOp .leq t x y t') ty e As (.bool (decide (m ≤ n))) := fun a w ha _ d pos af g => by
  simp [execOp, ha.eval hx, ha.eval hy, eqGuard, binOp, Op.intCmp]
theorem ExF.gtr (hx : ev e x = some (.int k m)) (hy : ev e y = some (.int k n)) : ExF P N w0 (.binOp .gtr t x y t') ty e As (.bool (decide (n < m))) := fun a w ha _ d pos af g => by
  simp [execOp, ha.eval hx, ha.eval hy, eqGuard, binOp, Op.intCmp]
theorem ExF.geq (hx : ev e x = some (.int k m)) (hy : ev e y = some (.int k n)) : ExF P N w0 (.binOp .geq t x y t') ty e As (.bool (decide (n ≤ m))) := fun a w ha _ d pos af g => by
  simp [execOp, ha.eval hx, ha.eval hy, eqGuard, binOp, Op.intCmp]
theorem ExF.eql (hx : ev e x = some (.int k m)) (hy : ev e y = some (.int k n)) : ExF P N w0 (.binOp .eql t x y t') ty e As (.bool (decide (m = n))) := fun a w ha _ d pos af g => by
  simp [execOp, ha.eval hx, ha.eval hy, eqGuard, binOp, Op.intCmp]
  rw [Bool.eq_iff_iff]; simp
theorem ExF.neq (hx : ev e x = some (.int k m)) (hy : ev e y = some (.int k n)) : ExF P N w0 (.binOp .neq t x y t') ty e As (.bool (!decide (m = n))) := fun a w ha _ d pos af g => by
  simp [execOp, ha.eval hx, ha.eval hy, eqGuard, binOp, Op.intCmp, bne]
  rw [Bool.eq_iff_iff]; simp
theorem ExF.eqlS {s s' : ByteArray} (hx : ev e x = some (.string s)) (hy : ev e y = some (.string s')) : ExF P N w0 (.binOp .eql t x y t') ty e As (.bool (decide (s.toList = s'.toList))) := fun a w ha _ d pos af g => by
  have h1 : decide (s.toList = s'.toList) = (s.toList == s'.toList) := by cases hb : s.toList == s'.toList <;> simp_all
  simp [execOp, ha.eval hx, ha.eval hy, eqGuard, binOp, Op.stringOp, h1]
theorem ExF.neqS {s s' : ByteArray} (hx : ev e x = some (.string s)) (hy : ev e y = some (.string s')) : ExF P N w0 (.binOp .neq t x y t') ty e As (.bool !(decide (s.toList = s'.toList))) := fun a w ha _ d pos af g => by
  have h1 : decide (s.toList = s'.toList) = (s.toList == s'.toList) := by cases hb : s.toList == s'.toList <;> simp_all
  simp [execOp, ha.eval hx, ha.eval hy, eqGuard, binOp, Op.stringOp, h1]
theorem run_equalB {t : TypeId} [UL P t .bool] (dp : Nat) (b b' : Bool) (w : World) : (Op.equalIn (dp + 1) t (.bool b) (.bool b')).run P w = .ok (b == b') w := by
  simp [Op.equalIn, run_und]
theorem run_eqB {t : TypeId} [UL P t .bool] (b b' : Bool) (w : World) : (Op.equal t (.bool b) (.bool b')).run P w = .ok (b == b') w := run_equalB 9999 b b' w
theorem ExF.eqlB {b b' : Bool} [UL P t .bool] (hx : ev e x = some (.bool b)) (hy : ev e y = some (.bool b')) : ExF P N w0 (.binOp .eql t x y t') ty e As (.bool (decide (b = b'))) := fun a w ha _ d pos af g => by
  have h1 : decide (b = b') = (b == b') := by cases b <;> cases b' <;> rfl
  simp [execOp, ha.eval hx, ha.eval hy, eqGuard, binOp, run_eqB, h1]
theorem ExF.neqB {b b' : Bool} [UL P t .bool] (hx : ev e x = some (.bool b)) (hy : ev e y = some (.bool b')) : ExF P N w0 (.binOp .neq t x y t') ty e As (.bool !(decide (b = b'))) := fun a w ha _ d pos af g => by
  have h1 : decide (b = b') = (b == b') := by cases b <;> cases b' <;> rfl
  simp [execOp, ha.eval hx, ha.eval hy, eqGuard, binOp, run_eqB, h1]
theorem ExF.not {b : Bool} (hx : ev e x = some (.bool b)) : ExF P N w0 (.unOp .not t x) ty e As (.bool !b) := fun a w ha _ d pos af g => by
  simp [execOp, ha.eval hx, Op.unary]
theorem ExF.neg (hx : ev e x = some (.int k m)) : ExF P N w0 (.unOp .neg t x) ty e As (.int k (k.wrap (-m))) := fun a w ha _ d pos af g => by
  simp [execOp, ha.eval hx, Op.unary, Op.intArith]
theorem ExF.negR (hx : ev e x = some (.int k m)) (h : IR k (-m)) : ExF P N w0 (.unOp .neg t x) ty e As (.int k (-m)) := by
  have := ExF.neg (P := P) (N := N) (w0 := w0) (As := As) (ty := ty) (t := t) hx; rwa [wrap_of_IR h] at this
theorem ExF.conv {k' : IntKind} {dsc : TypeDesc} [UL P t dsc] [UL P t' (.int k')] (hx : ev e x = some (.int k m)) : ExF P N w0 (.convert t t' x) ty e As (.int k' (k'.wrap m)) := fun a w ha _ d pos af g => by
  simp [execOp, ha.eval hx, convert, run_und, Conv.intToInt]
theorem ExF.convR {k' : IntKind} {dsc : TypeDesc} [UL P t dsc] [UL P t' (.int k')] (hx : ev e x = some (.int k m)) (h : IR k' m) : ExF P N w0 (.convert t t' x) ty e As (.int k' m) := by
  have := ExF.conv (P := P) (N := N) (w0 := w0) (As := As) (ty := ty) (t := t) (t' := t') hx; rwa [wrap_of_IR h] at this
theorem ExF.convS {s : ByteArray} [UL P t .string] [UL P t' .string] (hx : ev e x = some (.string s)) : ExF P N w0 (.convert t t' x) ty e As (.string s) := fun a w ha _ d pos af g => by
  simp [execOp, ha.eval hx, convert, run_und]
end
theorem ExF.extract {vs : Array Value} {i : Nat} (hx : ev e x = some (.tuple vs)) (hv : vs[i]? = some v) : ExF P N w0 (.extract x i) ty e As v := fun a w ha _ d pos af g => by
  simp [execOp, ha.eval hx, Instr.extract, hv]
theorem ExF.makeFunc {fn : Fn} {first cap : Array Operand} {vs us : List Value} (hx : evs e first.toList = some vs) (hy : evs e cap.toList = some us) : ExF P N w0 (.makeFunc fn first cap) ty e As (.func fn vs.toArray us.toArray) := fun a w ha _ d pos af g => by
  have h1 : first.map a.eval = vs.toArray := by apply Array.toList_inj.1; rw [Array.toList_map, ha.evals hx]
  have h2 : cap.map a.eval = us.toArray := by apply Array.toList_inj.1; rw [Array.toList_map, ha.evals hy]
  simp [execOp, Instr.makeFunc, h1, h2]
theorem ExF.nilCheckP {p : Addr} (hx : ev e x = some (.pointer (some p))) : ExF P N w0 (.nilCheck x) ty e As (.pointer (some p)) := fun a w ha _ d pos af g => by
  simp [execOp, ha.eval hx]
theorem ExF.lenSl {t : TypeId} {el : TypeId} [UL P t (.slice el)] {p : Option Addr} {l c : Nat} (hx : ev e x = some (.slice p l c)) : ExF P N w0 (.call ⟨.builtin .len, #[x], #[t]⟩) ty e As (.int .i64 l) := fun a w ha _ d pos af g => by
  simp [execOp, ha.eval hx, resolve, invoke, builtin, Builtin.len_, run_und, goInt]
theorem ExF.lenStr {t : TypeId} [UL P t .string] {s : ByteArray} (hx : ev e x = some (.string s)) : ExF P N w0 (.call ⟨.builtin .len, #[x], #[t]⟩) ty e As (.int .i64 s.size) := fun a w ha _ d pos af g => by
  simp [execOp, ha.eval hx, resolve, invoke, builtin, Builtin.len_, run_und, goInt]
theorem ExF.idxStr {t : TypeId} [UL P t .string] {s : ByteArray} {k : IntKind} {i : Nat} (hx : ev e x = some (.string s)) (hy : ev e y = some (.int k (i : Int))) (hi : i < s.size) : ExF P N w0 (.index t x y) ty e As (.int .u8 (s[i].toNat : Int)) := fun a w ha _ d pos af g => by
  simp [execOp, ha.eval hx, ha.eval hy, Instr.index, asIntOf, run_und, hi]

/-! ### arrays as values -/
theorem ExF.idxArr {t el : TypeId} {ud : TypeDesc} {n : Nat} {z' : Value} {b' : Nat} [UL P t (.array n el)] [UL P el ud] [TI P el z' 1 b'] (hag : aggB ud = false) {l : List Value} {k : IntKind} {i : Nat}
    (hx : ev e x = some (.agg l.toArray)) (hy : ev e y = some (.int k (i : Int))) (hi : Nat.blt i n = true) (hv : l[i]? = some v) : ExF P N w0 (.index t x y) ty e As v := fun a w ha _ d pos af g => by
  have hi' : i < n := by simpa [Nat.blt_eq] using hi
  simp [execOp, ha.eval hx, ha.eval hy, Instr.index, asIntOf, run_und, hi', run_size, part, run_agg, hag, hv]
theorem ExF.idxArrA {t el : TypeId} {ud : TypeDesc} {n s : Nat} {z' : Value} {b' : Nat} [UL P t (.array n el)] [UL P el ud] [TI P el z' s b'] (hag : aggB ud = true) {l vs : List Value} {k : IntKind} {i : Nat}
    (hx : ev e x = some (.agg l.toArray)) (hy : ev e y = some (.int k (i : Int))) (hi : Nat.blt i n = true) (hv : (l.drop (i * s)).take s = vs) : ExF P N w0 (.index t x y) ty e As (.agg vs.toArray) := fun a w ha _ d pos af g => by
  have hi' : i < n := by simpa [Nat.blt_eq] using hi
  subst hv
  simp [execOp, ha.eval hx, ha.eval hy, Instr.index, asIntOf, run_und, hi', run_size, part, run_agg, hag, List.drop_take]
theorem ExF.fld {t : TypeId} {fld : Field} {fields : Array Field} {f : Nat} {ud : TypeDesc} {l : List Value} [UL P t (.struct fields)] (hf : fields[f]? = some fld) [UL P fld.type ud] (hag : aggB ud = false)
    (hx : ev e x = some (.agg l.toArray)) (hv : l[fld.offset]? = some v) : ExF P N w0 (.field t x f) ty e As v := fun a w ha _ d pos af g => by
  simp [execOp, ha.eval hx, Instr.field, run_und, hf, asAgg, part, run_agg, hag, hv]

/-! ### building values -/
theorem ExF.build {t : TypeId} {parts : Array (Nat × Operand)} {vs : List Value} (hp : evs e (parts.toList.map (·.2)) = some vs) {l : List Value}
    (hb : ∀ w, (Instr.build t ((parts.toList.map (·.1)).zip vs).toArray).run P w = .ok (.agg l.toArray) w) : ExF P N w0 (.build t parts) ty e As (.agg l.toArray) := fun a w ha _ d pos af g => by
  have h1 : (parts.map fun (i, x) => (i, a.eval x)) = ((parts.toList.map (·.1)).zip vs).toArray := by
    apply Array.toList_inj.1
    have := ha.evals hp
    rw [← this]
    simp only [Array.toList_map, List.map_map]
    induction parts.toList with
    | nil => rfl
    | cons q r ih => simp [ih]
  simp only [execOp, h1, Sem.run_bind, hb, Result.andThen_ok]
  rfl

/-! ### addresses -/
theorem Addr.add_plain (b o k : Nat) : (⟨b, o, none⟩ : Addr).add k = ⟨b, o + k, none⟩ := by
  unfold Addr.add; split <;> simp_all
theorem ExF.fieldAddr {s : TypeId} {f k n b off off' : Nat} [h : FO P s f k n] (hx : ev e x = some (.pointer (some ⟨b, off, none⟩))) (ho : off + k = off') : ExF P N w0 (.fieldAddr s x f) ty e As (.pointer (some ⟨b, off', none⟩)) := fun a w ha _ d pos af g => by
  obtain ⟨fields, fld, h1, h2, h3, ⟨i, h4, h5⟩, h6⟩ := h.h
  simp [execOp, ha.eval hx, Instr.fieldAt, run_underlying h1, h2, Instr.sureAddr, fieldPlace, sizeOf, typeInfo, h4, h5, h6, Addr.add_plain, h3, ho]
theorem ExF.idxAddrA {t el : TypeId} {n s : Nat} {z' : Value} {b' : Nat} [UL P t (.array n el)] [TI P el z' s b'] {b off off' : Nat} {k : IntKind} {i : Nat}
    (hx : ev e x = some (.pointer (some ⟨b, off, none⟩))) (hy : ev e y = some (.int k (i : Int))) (hi : i < n) (ho : off + i * s = off') : ExF P N w0 (.indexAddr t x y) ty e As (.pointer (some ⟨b, off', none⟩)) := fun a w ha _ d pos af g => by
  subst ho
  simp [execOp, ha.eval hx, ha.eval hy, Instr.indexAt, asIntOf, run_und, Instr.sureAddr, hi, run_size, Addr.add_plain]

/-! ### memory: a block of cells -/
theorem St.getC {b : Nat} {l : List Value} {T : TypeId} [h : TakeC As b l T rest] {w : World} (hs : St w0 w As) : w.heap[b]? = some (.cells l.toArray T (0, 0)) := by
  obtain ⟨H, bs, g⟩ := hs
  obtain ⟨bs', _, k⟩ := Sat.perm h.perm g.sat
  obtain ⟨_, _, hw, _⟩ := k
  exact hw
theorem setRow_get {w : World} {b : Nat} {c c' : Array Value} {T : TypeId} {f : Nat × Nat} (h : w.heap[b]? = some (.cells c T f)) : (w.setRow b c').heap[b]? = some (.cells c' T f) := setRow_heap w b c c' T f h
theorem setRow_other {w : World} {b k : Nat} {c' : Array Value} (h : k ≠ b) : (w.setRow b c').heap[k]? = w.heap[k]? := by
  simp only [World.setRow, Array.getElem?_modify]
  rw [if_neg (by omega)]
theorem StW.setHead {w : World} {H : FH} {bs : List Nat} {b : Nat} {l l' : List Value} {T : TypeId} (g : StW w0 w H (.cl b l T :: rest) bs) : StW w0 (w.setRow b l'.toArray) H (.cl b l' T :: rest) bs := by
  obtain ⟨bs', rfl, hw, hr⟩ := g.sat
  have hb : ∀ k, H k ≠ none → k ≠ b := fun k hk he => hk (by subst he; exact g.ap _ (List.mem_cons_self ..))
  refine ⟨by simpa [World.setRow] using g.size, g.os, g.tape, g.output, fun k o hk => ?_, g.old, ⟨bs', rfl, setRow_get hw, Sat.move (FH.le_refl H) hr fun k hk => setRow_other ?_⟩, g.nd, g.ap⟩
  · rw [setRow_other (hb k (by rw [hk]; simp))]; exact g.fz k o hk
  · intro he; subst he; exact (List.nodup_cons.1 g.nd).1 hk
theorem St.setC {b : Nat} {l : List Value} {T : TypeId} [h : TakeC As b l T rest] {w : World} (hs : St w0 w As) (l' : List Value) : St w0 (w.setRow b l'.toArray) (.cl b l' T :: rest) := by
  obtain ⟨H, bs, g⟩ := Ents.perm h.perm w0 w hs
  exact ⟨H, bs, g.setHead⟩
theorem ExF.load {t : TypeId} {ud : TypeDesc} {b off : Nat} {l : List Value} {T : TypeId} [UL P t ud] (hag : aggB ud = false) (hx : ev e x = some (.pointer (some ⟨b, off, none⟩))) [TakeC As b l T rest] (hv : l[off]? = some v) : ExF P N w0 (.load t x) ty e As v :=
  fun a w ha hs d pos af g => by
    have hw := St.getC (b := b) (l := l) (T := T) (rest := rest) hs
    have hc : w.cell? ⟨b, off, none⟩ = some v := by simp [World.cell?, hw, hv]
    simp [execOp, ha.eval hx, Instr.loadAt, Instr.sureAddr, loadVar, run_agg, hag, hc]
theorem run_loadAgg {P : Program} {w : World} {b off n : Nat} {l : List Value} {T : TypeId} {fr : Nat × Nat} (hw : w.heap[b]? = some (.cells l.toArray T fr)) (hl : off + n ≤ l.length) :
    (loadCells ⟨b, off, none⟩ n).run P w = .ok ((l.drop off).take n).toArray w := by
  have hlen : ((l.drop off).take n).length = n := by simp; omega
  have := run_loadCells_list (P := P) w ⟨b, off, none⟩ ((l.drop off).take n) (fun j v hj => by
    rw [Addr.add_plain]
    have hjn : j < n := by have := (List.getElem?_eq_some_iff.1 hj).1; omega
    rw [List.getElem?_take, if_pos hjn, List.getElem?_drop] at hj
    simp [World.cell?, hw, hj])
  rwa [hlen] at this
theorem ExF.loadA {t : TypeId} {ud : TypeDesc} {z' : Value} {n b' b off : Nat} {l vs : List Value} {T : TypeId} [UL P t ud] [TI P t z' n b'] (hag : aggB ud = true) (hx : ev e x = some (.pointer (some ⟨b, off, none⟩))) [TakeC As b l T rest]
    (hl : Nat.ble (off + n) l.length = true) (hv : (l.drop off).take n = vs) : ExF P N w0 (.load t x) ty e As (.agg vs.toArray) :=
  fun a w ha hs d pos af g => by
    have hw := St.getC (b := b) (l := l) (T := T) (rest := rest) hs
    have hl' := Nat.le_of_ble_eq_true hl
    subst hv
    simp [execOp, ha.eval hx, Instr.loadAt, Instr.sureAddr, loadVar, run_agg, hag, run_size, run_loadAgg hw hl']
def setAll (l : List Value) (off : Nat) (vs : List Value) : List Value := l.take off ++ vs ++ l.drop (off + vs.length)
theorem run_storeAll {P : Program} {w : World} {b off : Nat} {l vs : List Value} {T : TypeId} (hw : w.heap[b]? = some (.cells l.toArray T (0, 0))) (hl : off + vs.length ≤ l.length) (h1 : ∀ v ∈ vs, v.oneCell' = true) :
    (storeCells ⟨b, off, none⟩ vs).run P w = .ok () (w.setRow b (setAll l off vs).toArray) := by
  have := run_storeCells_at P b off T vs 0 l.toArray w hw (by simpa using hl) h1
  simpa [setAll] using this
def oneB : List Value → Bool
  | [] => true
  | v :: r => v.oneCell' && oneB r
theorem oneB.all : ∀ {vs : List Value}, oneB vs = true → ∀ v ∈ vs, v.oneCell' = true
  | [], _, v, hv => by cases hv
  | u :: r, h, v, hv => by
    simp only [oneB, Bool.and_eq_true] at h
    rcases List.mem_cons.1 hv with rfl | hv
    · exact h.1
    · exact oneB.all h.2 v hv
theorem ExU.store {t : TypeId} {z' : Value} {b' b off : Nat} {l l' : List Value} {T : TypeId} [TI P t z' 1 b'] (hx : ev e x = some (.pointer (some ⟨b, off, none⟩))) (hy : ev e y = some v) (hv : v.cells = #[v]) (h1 : v.oneCell' = true) [TakeC As b l T rest]
    (hl : Nat.blt off l.length = true) (hl' : l.set off v = l') : ExU P N w0 (.store t x y) ty e As (.cl b l' T :: rest) := fun a w ha hs d pos af g => by
  have hw := St.getC (b := b) (l := l) (T := T) (rest := rest) hs
  have hlt : off < l.length := by simpa [Nat.blt_eq] using hl
  have hst := run_storeAll (P := P) (off := off) (vs := [v]) hw (by simp; omega) (by simpa using h1)
  have he : setAll l off [v] = l' := by subst hl'; simp [setAll, List.set_eq_take_append_cons_drop, hlt]
  rw [he] at hst
  refine ⟨_, ?_, St.setC (b := b) (l := l) (T := T) (rest := rest) hs l'⟩
  simp [execOp, ha.eval hx, ha.eval hy, Instr.storeAt, Instr.sureAddr, storeVar, hv, run_size, hst]
theorem ExU.storeA {t : TypeId} {z' : Value} {n b' b off : Nat} {l l' vs : List Value} {T : TypeId} [TI P t z' n b'] (hx : ev e x = some (.pointer (some ⟨b, off, none⟩))) (hy : ev e y = some (.agg vs.toArray)) (hn : vs.length = n) (h1 : oneB vs = true) [TakeC As b l T rest]
    (hl : Nat.ble (off + n) l.length = true) (hl' : setAll l off vs = l') : ExU P N w0 (.store t x y) ty e As (.cl b l' T :: rest) := fun a w ha hs d pos af g => by
  have hw := St.getC (b := b) (l := l) (T := T) (rest := rest) hs
  have hlt := Nat.le_of_ble_eq_true hl
  have hst := run_storeAll (P := P) (off := off) (vs := vs) hw (by omega) (oneB.all h1)
  rw [hl'] at hst
  refine ⟨_, ?_, St.setC (b := b) (l := l) (T := T) (rest := rest) hs l'⟩
  simp [execOp, ha.eval hx, ha.eval hy, Instr.storeAt, Instr.sureAddr, storeVar, Value.cells, run_size, hn, hst]
theorem ExR.alloc {t : TypeId} {z : Value} {l : List Value} {n b' : Nat} [TI P t z n b'] (hl : z.cells.toList = l) : ExR P N w0 (.alloc t) ty e As (RB (fun b => .pointer (some ⟨b, 0, none⟩)) (fun b => .cl b l t :: As)) := fun a w ha hs d pos af g => by
  refine ⟨_, w.alloc (.cells l.toArray t), _, ?_, ⟨w.heap.size, rfl, rfl⟩, St.alloc_cl hs l t⟩
  subst hl
  simp [execOp, Instr.alloc, run_zero, newVar, newRow]
theorem ExR.box {t : TypeId} {l : List Value} (hx : ev e x = some v) (hl : v.cells.toList = l) : ExR P N w0 (.box t x) ty e As (RB (fun b => .pointer (some ⟨b, 0, none⟩)) (fun b => .cl b l t :: As)) := fun a w ha hs d pos af g => by
  refine ⟨_, w.alloc (.cells l.toArray t), _, ?_, ⟨w.heap.size, rfl, rfl⟩, St.alloc_cl hs l t⟩
  subst hl
  simp [execOp, ha.eval hx, Instr.box, newVar, newRow]
end
attribute [irreducible] ExF ExU ExR
end Go.Sx
