/- The engine, part 8: parts of slices, min and max, lists of entries put together. -/
import Derived.Test.YtldljckhfcoafaaGreatDoorSx7
import Derived.Test.YtldljckhfcoafaaGreatDoorSx6
import Derived.Laws.Slices
namespace Go.Sx
open Go
section
variable {P : Program} {N : Ctx} {w0 : World} {e : Env} {As rest : List Ent} {ty : TypeId} {x y z : Operand} {v : Value} {α : Type} {c : Cod α} {xs : List α}

instance (priority := low) RdIn.app {As Bs : List Ent} [h : RdIn As v α c xs] : RdIn (As ++ Bs) v α c xs := ⟨fun w0 w hs => by
  obtain ⟨H, bs, g⟩ := hs
  obtain ⟨b1, b2, rfl, h1, h2⟩ := Sat.append.1 g.sat
  exact h.get w0 w ⟨H, b1, g.size, g.os, g.tape, g.output, g.fz, g.old, h1, (List.nodup_append.1 g.nd).1, fun b hb => g.ap b (List.mem_append_left _ hb)⟩⟩
/-- a slice is one cell -/
theorem CallsS.rdOne {f : FuncId} {args : List Value} {K : Value → List Ent → Prop} (v : Value) {α : Type} {c : Cod α} {xs : List α} [hr : RdIn As v α c xs] (h : v.oneCell' = true → CallsS P w0 f args As K) : CallsS P w0 f args As K := CallsS.mk fun w hs => by
  obtain ⟨p, cap, hv, _⟩ := (hr.get w0 w hs).len
  exact (h (by rw [hv]; rfl)).out w hs
/-- frozen memory that is among the entries -/
class FtIn (As : List Ent) (v : Value) (α : outParam Type) (c : outParam (Cod α)) (xs : outParam (List α)) : Prop where
  mem : Ent.ft (rd c v xs) ∈ As
instance FtIn.head {r : List Ent} : FtIn (.ft (rd c v xs) :: r) v α c xs := ⟨List.mem_cons_self ..⟩
instance (priority := low) FtIn.tl {u : Ent} {r : List Ent} [h : FtIn r v α c xs] : FtIn (u :: r) v α c xs := ⟨List.mem_cons_of_mem _ h.mem⟩
instance (priority := low) FtIn.toRd {As : List Ent} [h : FtIn As v α c xs] : RdIn As v α c xs := ⟨fun w0 w hs => by
  obtain ⟨H, bs, g⟩ := hs
  have h1 : (rd c v xs).p H := Sat.fact g.sat h.mem
  rcases h1 with h1 | ⟨b, off, cap, front, rest, T, fr, h1, h2, h3, h4⟩
  · exact .inl h1
  · exact .inr ⟨b, off, cap, front, rest, T, fr, h1, h2, h3, g.fz _ _ h4⟩⟩
theorem St.addFact {w : World} {f f' : PF} (hs : St w0 w As) (hm : Ent.ft f ∈ As) (h : ∀ H, f.p H → f'.p H) : St w0 w (.ft f' :: As) := by
  obtain ⟨H, bs, g⟩ := hs
  exact ⟨H, bs, g.size, g.os, g.tape, g.output, g.fz, g.old, ⟨h H (Sat.fact g.sat hm), g.sat⟩, g.nd, g.ap⟩
/-- another list at the same entry: the list is what counts -/
def RF (c : Cod α) (xs : List α) (rest : List Ent) (v0 v : Value) (As' : List Ent) : Prop := v = v0 ∧ As' = .ft (rd c v xs) :: rest
theorem run_slAt {t el : TypeId} {x : Value} {lo hi mx : Option Value} {w : World} [h : UL P t (.slice el)] : (Instr.sliceAt t x lo hi mx).run P w = (Instr.slice t x lo hi mx).run P w := by
  simp [Instr.sliceAt, run_underlying h.h]
theorem run_sl {t el : TypeId} {zv : Value} {n b' lo hi : Nat} {p : Option Addr} {ln cap : Nat} {w : World} [UL P t (.slice el)] [TI P el zv n b'] {lo' hi' : Option Value} (hl : (lo' = none ∧ lo = 0) ∨ ∃ k, lo' = some (.int k (lo : Int))) (hh : (hi' = none ∧ hi = ln) ∨ ∃ k, hi' = some (.int k (hi : Int)))
    (h1 : lo ≤ hi) (h2 : hi ≤ ln) (h3 : ln ≤ cap) : (Instr.slice t (.slice p ln cap) lo' hi' none).run P w = .ok (subV n (.slice p ln cap) lo hi) w := by
  have h4 : hi ≤ cap := Nat.le_trans h2 h3
  rcases hl with ⟨rfl, rfl⟩ | ⟨k, rfl⟩ <;> rcases hh with ⟨rfl, rfl⟩ | ⟨k', rfl⟩ <;> simp [Instr.slice, Instr.sliceBounds, Instr.sliceBound, asIntOf, run_und, run_size, subV, h1, h4]
theorem OwAt.sub {w : World} {T : TypeId} {b lo hi : Nat} (h : OwAt w c T v xs b) (h1 : lo ≤ hi) (h2 : hi ≤ xs.length) : OwAt w c T (subV c.n v lo hi) ((xs.drop lo).take (hi - lo)) b := by
  obtain ⟨off, cap, front, rest, rfl, g2, g3, g4, g5⟩ := h
  have hlen : ((xs.drop lo).take (hi - lo)).length = hi - lo := by simp; omega
  have e1 : xs = xs.take lo ++ ((xs.drop lo).take (hi - lo) ++ xs.drop hi) := by
    conv => lhs; rw [← List.take_append_drop lo xs, ← List.take_append_drop (hi - lo) (xs.drop lo), List.drop_drop]
    rw [show lo + (hi - lo) = hi from by omega]
  have e2 : c.flat xs = c.flat (xs.take lo) ++ (c.flat ((xs.drop lo).take (hi - lo)) ++ c.flat (xs.drop hi)) := by
    conv => lhs; rw [e1]
    rw [Cod.flat_append, Cod.flat_append]
  by_cases hc : cap = lo
  · subst hc
    have : hi = cap := by omega
    subst this
    refine ⟨off, 0, front, c.flat xs ++ rest, by simp [subV], g2, by simp, by simp, ?_⟩
    rw [g5]; simp [Cod.flat_nil]
  · refine ⟨off + lo * c.n, cap - lo, front ++ c.flat (xs.take lo), c.flat (xs.drop hi) ++ rest, ?_, ?_, by rw [hlen]; omega, ?_, ?_⟩
    · simp only [subV, if_neg hc, Option.map_some, Addr.add_plain, hlen]
    · simp only [List.length_append, Cod.flat_length, List.length_take, g2]
      rw [Nat.min_eq_left (by omega)]
    · have g4' := g4
      rw [e2] at g4'
      simp only [List.length_append, Cod.flat_length c (xs.take lo), List.length_take, Nat.min_eq_left (Nat.le_trans h1 h2)] at g4' ⊢
      rw [Nat.mul_sub, Nat.mul_comm c.n lo]
      omega
    · rw [g5, e2]; simp only [List.append_assoc]
theorem Ents.subW {T : TypeId} {lo hi : Nat} (h1 : lo ≤ hi) (h2 : hi ≤ xs.length) : Ents (.ow c T v xs :: As) (.ow c T (subV c.n v lo hi) ((xs.drop lo).take (hi - lo)) :: As) := by
  rintro w0 w ⟨H, bs, g⟩
  refine ⟨H, bs, g.size, g.os, g.tape, g.output, g.fz, g.old, ?_, g.nd, g.ap⟩
  rcases g.sat with ⟨⟨p, h3⟩, h4, hr⟩ | ⟨b, bs', rfl, ho, hr⟩
  · subst h3 h4
    have e1 : hi = 0 := by simpa using h2
    subst e1
    have e2 : lo = 0 := by omega
    subst e2
    exact .inl ⟨⟨p, by simp [subV]⟩, by simp, hr⟩
  · exact .inr ⟨b, bs', rfl, ho.sub h1 h2, hr⟩
/-- the bounds of a part -/
def evLo (e : Env) : Option Operand → Nat → Prop
  | none, i => i = 0
  | some y, i => ∃ k, ev e y = some (.int k (i : Int))
def evHi (e : Env) (n : Nat) : Option Operand → Nat → Prop
  | none, i => i = n
  | some y, i => ∃ k, ev e y = some (.int k (i : Int))
theorem evLo.no : evLo e none 0 := rfl
theorem evHi.no {n : Nat} : evHi e n none n := rfl
theorem evLo.so {k : IntKind} {i : Nat} (h : ev e y = some (.int k (i : Int))) : evLo e (some y) i := ⟨k, h⟩
theorem evHi.so {k : IntKind} {i n : Nat} (h : ev e y = some (.int k (i : Int))) : evHi e n (some y) i := ⟨k, h⟩
theorem evLo.run {a : Act} {lo : Option Operand} {i : Nat} (ha : OkA N a e) (h : evLo e lo i) : (lo.map a.eval = none ∧ i = 0) ∨ ∃ k, lo.map a.eval = some (.int k (i : Int)) := by
  cases lo with
  | none => exact .inl ⟨rfl, h⟩
  | some y => obtain ⟨k, hk⟩ := h; exact .inr ⟨k, by simp [ha.eval hk]⟩
theorem evHi.run {a : Act} {hi : Option Operand} {i n : Nat} (ha : OkA N a e) (h : evHi e n hi i) : (hi.map a.eval = none ∧ i = n) ∨ ∃ k, hi.map a.eval = some (.int k (i : Int)) := by
  cases hi with
  | none => exact .inl ⟨rfl, h⟩
  | some y => obtain ⟨k, hk⟩ := h; exact .inr ⟨k, by simp [ha.eval hk]⟩
/-- v[lo:hi] of a slice that is ours: the whole is not used any more -/
theorem ExR.sliceW {t el T : TypeId} {zv : Value} {n b' lo hi : Nat} {l h : Option Operand} [UL P t (.slice el)] [TI P el zv n b'] (hx : ev e x = some v) [ht : TakeW As v c T xs rest] (hcn : c.n = n) (hl : evLo e l lo) (hh : evHi e xs.length h hi) (h1 : lo ≤ hi) (h2 : hi ≤ xs.length) :
    ExR P N w0 (.slice t x l h none) ty e As (fun u As' => u = subV n v lo hi ∧ As' = .ow c T u ((xs.drop lo).take (hi - lo)) :: rest) := by
  unfold ExR
  intro a w ha hs d pos af g
  have hs' := Ents.perm ht.perm w0 w hs
  obtain ⟨p, cap, hv, hcap⟩ := ((inferInstance : RdIn (.ow c T v xs :: rest) v α c xs).get w0 w hs').len
  refine ⟨_, w, _, ?_, ⟨rfl, rfl⟩, by rw [← hcn]; exact Ents.subW h1 h2 w0 w hs'⟩
  have := run_sl (P := P) (w := w) (t := t) (el := el) (zv := zv) (n := n) (b' := b') (p := p) (hl.run ha) (hh.run ha) h1 h2 hcap
  simp [execOp, ha.eval hx, hv, run_slAt, this]
/-- v[lo:hi] of a slice that is only read -/
theorem ExR.sliceF {t el : TypeId} {zv : Value} {n b' lo hi : Nat} {l h : Option Operand} [UL P t (.slice el)] [TI P el zv n b'] (hx : ev e x = some v) [ht : FtIn As v α c xs] (hcn : c.n = n) (hl : evLo e l lo) (hh : evHi e xs.length h hi) (h1 : lo ≤ hi) (h2 : hi ≤ xs.length) :
    ExR P N w0 (.slice t x l h none) ty e As (fun u As' => u = subV n v lo hi ∧ As' = .ft (rd c u ((xs.drop lo).take (hi - lo))) :: As) := by
  unfold ExR
  intro a w ha hs d pos af g
  obtain ⟨p, cap, hv, hcap⟩ := ((inferInstance : RdIn As v α c xs).get w0 w hs).len
  refine ⟨_, w, _, ?_, ⟨rfl, rfl⟩, St.addFact hs ht.mem fun H hH => by rw [← hcn]; exact Rdb.sub hH h1 h2⟩
  have := run_sl (P := P) (w := w) (t := t) (el := el) (zv := zv) (n := n) (b' := b') (p := p) (hl.run ha) (hh.run ha) h1 h2 hcap
  simp [execOp, ha.eval hx, hv, run_slAt, this]
theorem ExF.maxI {k k' : IntKind} {m n : Int} {tys : Array TypeId} (hx : ev e x = some (.int k m)) (hy : ev e y = some (.int k' n)) : ExF P N w0 (.call ⟨.builtin .max, #[x, y], tys⟩) ty e As (.int k (if m < n then n else m)) := by
  unfold ExF
  intro a w ha hs d pos af g
  simp [execOp, ha.eval hx, ha.eval hy, resolve, invoke, builtin, Builtin.max_, Builtin.max2]
theorem ExF.minI {k k' : IntKind} {m n : Int} {tys : Array TypeId} (hx : ev e x = some (.int k m)) (hy : ev e y = some (.int k' n)) : ExF P N w0 (.call ⟨.builtin .min, #[x, y], tys⟩) ty e As (.int k (if n < m then n else m)) := by
  unfold ExF
  intro a w ha hs d pos af g
  simp [execOp, ha.eval hx, ha.eval hy, resolve, invoke, builtin, Builtin.min_, Builtin.min2]
end
section
variable {κ ν : Type} [DecidableEq κ] {P : Program} {N : Ctx} {w0 : World} {e : Env} {As rest : List Ent} {ty : TypeId} {x y z : Operand} {ck : κ → Value} {cv : ν → Value}
/-- a lookup whose entry is known -/
theorem ExF.lookupS {t kt el : TypeId} {b n b' : Nat} {l : List (κ × ν)} {zv u : Value} {k : κ} {v0 : ν} [UL P t (.map kt el)] [TI P el zv n b'] [K : KeyT P kt κ ck] (hx : ev e x = some (.map (some b))) [TakeO As b (mapO ck cv l) rest] (hy : ev e y = some u) [hk : EncV ck u k] (hm : mGet l k = some v0) :
    ExF P N w0 (.lookup t x y false) ty e As (cv v0) := by
  have := ExF.lookup (P := P) (N := N) (w0 := w0) (ty := ty) (t := t) (l := l) (ck := ck) (cv := cv) (rest := rest) (As := As) (b := b) hx hy
  rw [hm] at this
  exact this
theorem ExF.lookupD {t kt el : TypeId} {b n b' : Nat} {l : List (κ × ν)} {zv u : Value} {k : κ} [UL P t (.map kt el)] [TI P el zv n b'] [K : KeyT P kt κ ck] (hx : ev e x = some (.map (some b))) [TakeO As b (mapO ck cv l) rest] (hy : ev e y = some u) [hk : EncV ck u k] :
    ExF P N w0 (.lookup t x y true) ty e As (.tuple #[((mGet l k).map cv).getD zv, .bool (decide ((mGet l k).isSome = true))]) := by
  have := ExF.lookupOk (P := P) (N := N) (w0 := w0) (ty := ty) (t := t) (l := l) (ck := ck) (cv := cv) (rest := rest) (As := As) (b := b) hx hy
  simpa using this
end
section
variable {P : Program} {N : Ctx} {w0 : World} {e : Env} {As rest : List Ent} {ty : TypeId} {x y z : Operand} {v : Value} {α : Type} {c : Cod α} {xs : List α}
/-! a part of a slice -/
theorem ExF.lenSub {t el : TypeId} {n lo hi : Nat} [UL P t (.slice el)] (hx : ev e x = some (subV n v lo hi)) [hr : RdIn As v α c xs] : ExF P N w0 (.call ⟨.builtin .len, #[x], #[t]⟩) ty e As (.int .i64 ((hi - lo : Nat) : Int)) := by
  unfold ExF
  intro a w ha hs d pos af g
  obtain ⟨p, cap, hv, _⟩ := (hr.get w0 w hs).len
  have : subV n v lo hi = .slice (if cap = lo then p else p.map (·.add (lo * n))) (hi - lo) (cap - lo) := by rw [hv]; simp [subV]
  simp [execOp, ha.eval hx, this, resolve, invoke, builtin, Builtin.len_, run_und, goInt]
theorem ExF.idxSub {t el : TypeId} {z' : Value} {n m b' lo hi : Nat} [UL P t (.slice el)] [TI P el z' n b'] (hx : ev e x = some (subV m v lo hi)) [hr : RdIn As v α c xs] (hcn : c.n = n) (hm : m = n) {k : IntKind} {i : Nat} (hy : ev e y = some (.int k (i : Int))) (hlt : lo + i < hi) (hl : hi ≤ xs.length) :
    ExF P N w0 (.indexAddr t x y) ty e As (.pointer (some (elp n v (lo + i) 0))) := by
  unfold ExF
  intro a w ha hs d pos af g
  subst hm
  subst hcn
  have h := hr.get w0 w hs
  rcases h with ⟨⟨_, rfl⟩, rfl⟩ | ⟨b, off, cap, front, rest, T, fr, rfl, h2, h3, h4⟩
  · simp at hl; omega
  · have hcl : ¬ cap = lo := by omega
    have : subV c.n (.slice (some ⟨b, off, none⟩) xs.length cap) lo hi = .slice (some ⟨b, off + lo * c.n, none⟩) (hi - lo) (cap - lo) := by simp [subV, hcl, Addr.add_plain]
    have hi' : i < hi - lo := by omega
    simp [execOp, ha.eval hx, ha.eval hy, this, Instr.indexAt, asIntOf, run_und, hi', run_size, Addr.add_plain, elp, Nat.add_mul, Nat.add_assoc]
end
end Go.Sx
