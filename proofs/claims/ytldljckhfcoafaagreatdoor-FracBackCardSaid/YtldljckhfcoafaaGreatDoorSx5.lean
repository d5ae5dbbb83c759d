/- The engine, part 5: conditions, results, small things. -/
import Derived.Test.YtldljckhfcoafaaGreatDoorSx4
namespace Go.Sx
open Go
section
variable {P : Program} {N : Ctx} {w0 : World} {e : Env} {As As' rest : List Ent} {Q : Exit → Act → World → Prop} {c1 c2 : Code} {x : Operand}
theorem Tri.condP {p : Prop} [Decidable p] (hx : ev e x = some (.bool (decide p))) (h1 : p → Tri P N w0 c1 e As Q) (h2 : ¬ p → Tri P N w0 c2 e As Q) : Tri P N w0 (.cond x c1 c2) e As Q :=
  Tri.cond hx (fun h => h1 (of_decide_eq_true h)) (fun h => h2 (of_decide_eq_false h))
theorem Tri.condN {p : Prop} [Decidable p] (hx : ev e x = some (.bool !(decide p))) (h1 : ¬ p → Tri P N w0 c1 e As Q) (h2 : p → Tri P N w0 c2 e As Q) : Tri P N w0 (.cond x c1 c2) e As Q :=
  Tri.cond hx (fun h => h1 (by simpa using h)) (fun h => h2 (by simpa using h))
theorem Tri.condT {p : Prop} [Decidable p] (hx : ev e x = some (.bool (decide p))) (h : p) (h1 : Tri P N w0 c1 e As Q) : Tri P N w0 (.cond x c1 c2) e As Q := Tri.cond_true hx (decide_eq_true h) h1
theorem Tri.condF {p : Prop} [Decidable p] (hx : ev e x = some (.bool (decide p))) (h : ¬ p) (h1 : Tri P N w0 c2 e As Q) : Tri P N w0 (.cond x c1 c2) e As Q := Tri.cond_false hx (decide_eq_false h) h1
theorem Tri.condNT {p : Prop} [Decidable p] (hx : ev e x = some (.bool !(decide p))) (h : ¬ p) (h1 : Tri P N w0 c1 e As Q) : Tri P N w0 (.cond x c1 c2) e As Q := Tri.cond_true hx (by simp [h]) h1
theorem Tri.condNF {p : Prop} [Decidable p] (hx : ev e x = some (.bool !(decide p))) (h : p) (h1 : Tri P N w0 c2 e As Q) : Tri P N w0 (.cond x c1 c2) e As Q := Tri.cond_false hx (by simp [h]) h1
theorem Tri.cT (hx : ev e x = some (.bool true)) (h1 : Tri P N w0 c1 e As Q) : Tri P N w0 (.cond x c1 c2) e As Q := Tri.cond_true hx rfl h1
theorem Tri.cF (hx : ev e x = some (.bool false)) (h1 : Tri P N w0 c2 e As Q) : Tri P N w0 (.cond x c1 c2) e As Q := Tri.cond_false hx rfl h1

/-! building values, sorted by how full the literal is -/
def flatCells : List Value → List Value
  | [] => []
  | v :: r => v.cells.toList ++ flatCells r
theorem ExF.buildZ {t n b : Nat} {l : List Value} {ty : TypeId} [TI P t (.agg l.toArray) n b] (hb : ∀ w, (Instr.build t #[]).run P w = .ok (.agg l.toArray) w) : ExF P N w0 (.build t #[]) ty e As (.agg l.toArray) :=
  ExF.build (vs := []) rfl hb
theorem ExF.buildS {t n b : Nat} {z' : Value} {ty : TypeId} {parts : Array (Nat × Operand)} {vs : List Value} [TI P t z' n b] (hp : evs e (parts.toList.map (·.2)) = some vs) (_h1 : oneB vs = true) (_h2 : vs.length = n)
    (hb : ∀ w, (Instr.build t ((parts.toList.map (·.1)).zip vs).toArray).run P w = .ok (.agg vs.toArray) w) : ExF P N w0 (.build t parts) ty e As (.agg vs.toArray) := ExF.build hp hb
theorem ExF.buildF {t n b : Nat} {z' : Value} {ty : TypeId} {parts : Array (Nat × Operand)} {vs : List Value} [TI P t z' n b] (hp : evs e (parts.toList.map (·.2)) = some vs) (_h2 : (flatCells vs).length = n)
    (hb : ∀ w, (Instr.build t ((parts.toList.map (·.1)).zip vs).toArray).run P w = .ok (.agg (flatCells vs).toArray) w) : ExF P N w0 (.build t parts) ty e As (.agg (flatCells vs).toArray) := ExF.build hp hb
theorem ExR.buildSl {t el ln n b : Nat} {z' : Value} {ty : TypeId} {parts : Array (Nat × Operand)} {vs : List Value} [UL P t (.slice el)] [TI P el z' n b] (hp : evs e (parts.toList.map (·.2)) = some vs) (_h2 : (flatCells vs).length = ln * n)
    (hb : ∀ w, (Instr.buildSlice t ln ((parts.toList.map (·.1)).zip vs).toArray).run P w = .ok (.slice (some ⟨w.heap.size, 0, none⟩) ln ln) (w.alloc (.cells (flatCells vs).toArray el))) :
    ExR P N w0 (.buildSlice t ln parts) ty e As (RB (fun b => .slice (some ⟨b, 0, none⟩) ln ln) (fun b => .cl b (flatCells vs) el :: As)) := ExR.buildSlice hp hb

/-! the usual cases of memory, with the entries' lists written out -/
theorem ExR.boxA {t : TypeId} {ty : TypeId} {l : List Value} (hx : ev e x = some (.agg l.toArray)) : ExR P N w0 (.box t x) ty e As (RB (fun b => .pointer (some ⟨b, 0, none⟩)) (fun b => .cl b l t :: As)) := ExR.box hx rfl
theorem ExR.box1 {t : TypeId} {ty : TypeId} {v : Value} (hx : ev e x = some v) (h1 : v.cells = #[v]) : ExR P N w0 (.box t x) ty e As (RB (fun b => .pointer (some ⟨b, 0, none⟩)) (fun b => .cl b [v] t :: As)) := ExR.box hx (by rw [h1])
theorem ExR.allocA {t ty : TypeId} {l : List Value} {n b' : Nat} [TI P t (.agg l.toArray) n b'] : ExR P N w0 (.alloc t) ty e As (RB (fun b => .pointer (some ⟨b, 0, none⟩)) (fun b => .cl b l t :: As)) := ExR.alloc rfl
theorem ExR.alloc1 {t ty : TypeId} {z : Value} {n b' : Nat} [TI P t z n b'] (h1 : z.cells = #[z]) : ExR P N w0 (.alloc t) ty e As (RB (fun b => .pointer (some ⟨b, 0, none⟩)) (fun b => .cl b [z] t :: As)) := ExR.alloc (by rw [h1])
theorem ExF.loadFull {t ty : TypeId} {ud : TypeDesc} {z' : Value} {n b' b : Nat} {l : List Value} {T : TypeId} [UL P t ud] [TI P t z' n b'] (hag : aggB ud = true) (hx : ev e x = some (.pointer (some ⟨b, 0, none⟩))) [TakeC As b l T rest]
    (hl : l.length = n) : ExF P N w0 (.load t x) ty e As (.agg l.toArray) := ExF.loadA (rest := rest) hag hx (by rw [hl, Nat.zero_add]; exact Nat.ble_eq_true_of_le (Nat.le_refl _)) (by rw [List.drop_zero, ← hl, List.take_length])
theorem ExU.storeFull {t ty : TypeId} {z' : Value} {n b' b : Nat} {l vs : List Value} {T : TypeId} {y : Operand} [TI P t z' n b'] (hx : ev e x = some (.pointer (some ⟨b, 0, none⟩))) (hy : ev e y = some (.agg vs.toArray)) (hn : vs.length = n) (h1 : oneB vs = true) [TakeC As b l T rest]
    (hl : l.length = n) : ExU P N w0 (.store t x y) ty e As (.cl b vs T :: rest) := ExU.storeA hx hy hn h1 (by rw [hl, Nat.zero_add]; exact Nat.ble_eq_true_of_le (Nat.le_refl _)) (by unfold setAll; simp [hn, ← hl])
theorem ExU.store1 {t ty : TypeId} {z' : Value} {b' b : Nat} {u v : Value} {T : TypeId} {y : Operand} [TI P t z' 1 b'] (hx : ev e x = some (.pointer (some ⟨b, 0, none⟩))) (hy : ev e y = some v) (hv : v.cells = #[v]) (h1 : v.oneCell' = true) [TakeC As b [u] T rest] :
    ExU P N w0 (.store t x y) ty e As (.cl b [v] T :: rest) := ExU.store (rest := rest) hx hy hv h1 rfl rfl

/-! results -/
def rvRun (tmps : Array Value) : ResultVar → Sem Value
  | .tmp t => pure (tmps.getD t undef)
  | .cell a t => do loadVar t (← asAddr (tmps.getD a undef))
theorem results_eq (fn : Func) (tmps : Array Value) : results fn tmps = (do let vs ← fn.results.mapM (rvRun tmps); pure (if h : vs.size = 1 then vs[0] else .tuple vs)) := rfl
def RV (P : Program) (N : Ctx) (w0 : World) (e : Env) (As : List Ent) (r : ResultVar) (v : Value) : Prop :=
  ∀ a w, OkA N a e → St w0 w As → (rvRun a.tmps r).run P w = .ok v w
theorem RV.tmp {t : Nat} {v : Value} (h : e.get t = some v) : RV P N w0 e As (.tmp t) v := fun a w ha _ => by
  have := ha.holds t v h
  simp [rvRun, Array.getD_eq_getD_getElem?, this]
theorem RV.cell {t T' : Nat} {ud : TypeDesc} {b off : Nat} {l : List Value} {T : TypeId} {v : Value} [UL P T' ud] (hag : aggB ud = false) (h : e.get t = some (.pointer (some ⟨b, off, none⟩))) [TakeC As b l T rest] (hv : l[off]? = some v) : RV P N w0 e As (.cell t T') v := fun a w ha hs => by
  have := ha.holds t _ h
  have hw := St.getC (b := b) (l := l) (T := T) (rest := rest) hs
  have hc : w.cell? ⟨b, off, none⟩ = some v := by simp [World.cell?, hw, hv]
  simp [rvRun, Array.getD_eq_getD_getElem?, this, asAddr, loadVar, run_agg, hag, hc]
theorem RV.cellA {t T' n b' : Nat} {ud : TypeDesc} {z' : Value} {b off : Nat} {l vs : List Value} {T : TypeId} [UL P T' ud] [TI P T' z' n b'] (hag : aggB ud = true) (h : e.get t = some (.pointer (some ⟨b, off, none⟩))) [TakeC As b l T rest] (hl : Nat.ble (off + n) l.length = true) (hv : (l.drop off).take n = vs) :
    RV P N w0 e As (.cell t T') (.agg vs.toArray) := fun a w ha hs => by
  have := ha.holds t _ h
  have hw := St.getC (b := b) (l := l) (T := T) (rest := rest) hs
  subst hv
  simp [rvRun, Array.getD_eq_getD_getElem?, this, asAddr, loadVar, run_agg, hag, run_size, run_loadAgg hw (Nat.le_of_ble_eq_true hl)]
theorem RV.cellF {t T' n b' : Nat} {ud : TypeDesc} {z' : Value} {b : Nat} {l : List Value} {T : TypeId} [UL P T' ud] [TI P T' z' n b'] (hag : aggB ud = true) (h : e.get t = some (.pointer (some ⟨b, 0, none⟩))) [TakeC As b l T rest] (hl : l.length = n) :
    RV P N w0 e As (.cell t T') (.agg l.toArray) := RV.cellA (rest := rest) hag h (by rw [hl, Nat.zero_add]; exact Nat.ble_eq_true_of_le (Nat.le_refl _)) (by rw [List.drop_zero, ← hl, List.take_length])
theorem Post.res0 {fn : Func} {K : Value → List Ent → Prop} (hds : N.ds = []) (hf : fn.results = #[]) (hk : ∃ As', K (.tuple #[]) As' ∧ Ents As As') : Post N w0 (FQ P w0 fn K) .ret e As :=
  Post.fin hds (fun a w ha hs => by simp [results_eq, hf]) hk
theorem Post.res1 {fn : Func} {K : Value → List Ent → Prop} {r : ResultVar} {v : Value} (hds : N.ds = []) (hf : fn.results = #[r]) (hr : RV P N w0 e As r v) (hk : ∃ As', K v As' ∧ Ents As As') : Post N w0 (FQ P w0 fn K) .ret e As :=
  Post.fin hds (fun a w ha hs => by
    rw [results_eq, hf]
    simp [hr a w ha hs]) hk
theorem Post.res2 {fn : Func} {K : Value → List Ent → Prop} {r r' : ResultVar} {v v' : Value} (hds : N.ds = []) (hf : fn.results = #[r, r']) (hr : RV P N w0 e As r v) (hr' : RV P N w0 e As r' v') (hk : ∃ As', K (.tuple #[v, v']) As' ∧ Ents As As') : Post N w0 (FQ P w0 fn K) .ret e As :=
  Post.fin hds (fun a w ha hs => by
    rw [results_eq, hf]
    simp [hr a w ha hs, hr' a w ha hs]) hk
theorem Post.res3 {fn : Func} {K : Value → List Ent → Prop} {r r' r'' : ResultVar} {v v' v'' : Value} (hds : N.ds = []) (hf : fn.results = #[r, r', r'']) (hr : RV P N w0 e As r v) (hr' : RV P N w0 e As r' v') (hr'' : RV P N w0 e As r'' v'') (hk : ∃ As', K (.tuple #[v, v', v'']) As' ∧ Ents As As') : Post N w0 (FQ P w0 fn K) .ret e As :=
  Post.fin hds (fun a w ha hs => by
    rw [results_eq, hf]
    simp [hr a w ha hs, hr' a w ha hs, hr'' a w ha hs]) hk
theorem Post.entsK {fn : Func} {K : Value → List Ent → Prop} {ex : Exit} (h : Ents As As') (k : Post N w0 (FQ P w0 fn K) ex e As') : Post N w0 (FQ P w0 fn K) ex e As := Post.ents h k
end
end Go.Sx
