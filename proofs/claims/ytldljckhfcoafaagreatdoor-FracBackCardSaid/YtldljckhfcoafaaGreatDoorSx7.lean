/- The engine, part 7: maps that are ours: a list of keys and values, in the order in which the keys came. -/
import Derived.Test.YtldljckhfcoafaaGreatDoorSx5
namespace Go.Sx
open Go
set_option linter.unusedSectionVars false
section
variable {κ ν : Type} [DecidableEq κ]
def mapEs (ck : κ → Value) (cv : ν → Value) : List (κ × ν) → Nat → List MapEntry
  | [], _ => []
  | x :: l, i => ⟨ck x.1, cv x.2, i⟩ :: mapEs ck cv l (i + 1)
def mapO (ck : κ → Value) (cv : ν → Value) (l : List (κ × ν)) : Obj := .map (mapEs ck cv l 0).toArray l.length
def mGet : List (κ × ν) → κ → Option ν
  | [], _ => none
  | x :: l, k => if x.1 = k then some x.2 else mGet l k
def mIdx : List (κ × ν) → κ → Nat
  | [], _ => 0
  | x :: l, k => if x.1 = k then 0 else mIdx l k + 1
def mSet : List (κ × ν) → κ → ν → List (κ × ν)
  | [], k, v => [(k, v)]
  | x :: l, k, v => if x.1 = k then (k, v) :: l else x :: mSet l k v
/-- an entry for the key, of value z if there was none -/
def mTouch (l : List (κ × ν)) (k : κ) (z : ν) : List (κ × ν) := mSet l k ((mGet l k).getD z)
theorem mGet_set {l : List (κ × ν)} {k k' : κ} {v : ν} : mGet (mSet l k v) k' = if k = k' then some v else mGet l k' := by
  induction l with
  | nil => simp [mSet, mGet]
  | cons x l ih =>
    simp only [mSet]
    by_cases h : x.1 = k
    · rw [if_pos h]
      simp only [mGet]
      by_cases h' : k = k'
      · simp [h']
      · rw [if_neg h', if_neg h', if_neg (by rw [h]; exact h')]
    · rw [if_neg h]
      simp only [mGet, ih]
      by_cases h' : k = k'
      · subst h'; simp [h]
      · simp [h']
theorem mSet_touch {l : List (κ × ν)} {k : κ} {z v : ν} : mSet (mTouch l k z) k v = mSet l k v := by
  unfold mTouch
  generalize (mGet l k).getD z = u
  induction l with
  | nil => simp [mSet]
  | cons x l ih =>
    simp only [mSet]
    by_cases h : x.1 = k
    · simp [h, mSet]
    · simp [h, mSet, ih]
theorem mapEs_length {ck : κ → Value} {cv : ν → Value} : ∀ {l : List (κ × ν)} {i : Nat}, (mapEs ck cv l i).length = l.length
  | [], _ => rfl
  | x :: l, i => by simp [mapEs, mapEs_length (l := l)]
theorem mapEs_get {ck : κ → Value} {cv : ν → Value} : ∀ {l : List (κ × ν)} {i j : Nat}, (mapEs ck cv l i)[j]? = (l[j]?).map fun x => ⟨ck x.1, cv x.2, i + j⟩
  | [], _, _ => by simp [mapEs]
  | x :: l, i, 0 => by simp [mapEs]
  | x :: l, i, j + 1 => by simp [mapEs, mapEs_get (l := l), Nat.add_assoc, Nat.add_comm 1]
theorem mIdx_lt {l : List (κ × ν)} {k : κ} {v : ν} (h : mGet l k = some v) : mIdx l k < l.length ∧ l[mIdx l k]? = some (k, v) := by
  induction l with
  | nil => cases h
  | cons x l ih =>
    simp only [mGet, mIdx] at h ⊢
    by_cases hx : x.1 = k
    · rw [if_pos hx] at h ⊢
      cases h; subst hx
      simp
    · rw [if_neg hx] at h ⊢
      have := ih h
      exact ⟨by simpa using this.1, by simpa using this.2⟩
theorem mSet_idx {l : List (κ × ν)} {k : κ} {v u : ν} (h : mGet l k = some v) : mSet l k u = l.set (mIdx l k) (k, u) := by
  induction l with
  | nil => cases h
  | cons x l ih =>
    simp only [mGet, mIdx, mSet] at h ⊢
    by_cases hx : x.1 = k
    · simp [hx]
    · rw [if_neg hx] at h ⊢
      simp [hx, ih h]
theorem mSet_new {l : List (κ × ν)} {k : κ} {u : ν} (h : mGet l k = none) : mSet l k u = l ++ [(k, u)] := by
  induction l with
  | nil => rfl
  | cons x l ih =>
    simp only [mGet, mSet] at h ⊢
    by_cases hx : x.1 = k
    · rw [if_pos hx] at h; cases h
    · rw [if_neg hx] at h
      simp [hx, ih h]
theorem mIdx_new {l : List (κ × ν)} {k : κ} (h : mGet l k = none) : mIdx l k = l.length := by
  induction l with
  | nil => rfl
  | cons x l ih =>
    simp only [mGet, mIdx] at h ⊢
    by_cases hx : x.1 = k
    · rw [if_pos hx] at h; cases h
    · rw [if_neg hx] at h
      simp [hx, ih h]
theorem mIdx_set {l : List (κ × ν)} {k : κ} {u : ν} : mIdx (mSet l k u) k = mIdx l k := by
  induction l with
  | nil => simp [mSet, mIdx]
  | cons x l ih =>
    simp only [mSet]
    by_cases hx : x.1 = k
    · simp [hx, mIdx]
    · simp [hx, mIdx, ih]
theorem mapEs_set {ck : κ → Value} {cv : ν → Value} {k : κ} {u : ν} : ∀ {l : List (κ × ν)} {i j : Nat}, j < l.length → mapEs ck cv (l.set j (k, u)) i = (mapEs ck cv l i).set j ⟨ck k, cv u, i + j⟩
  | x :: l, i, 0, _ => by simp [mapEs]
  | x :: l, i, j + 1, h => by
    have h' : j < l.length := by simpa using h
    simp [mapEs, mapEs_set (l := l) h', Nat.add_assoc, Nat.add_comm 1]
theorem mapEs_append {ck : κ → Value} {cv : ν → Value} {y : κ × ν} : ∀ {l : List (κ × ν)} {i : Nat}, mapEs ck cv (l ++ [y]) i = mapEs ck cv l i ++ [⟨ck y.1, cv y.2, i + l.length⟩]
  | [], i => by simp [mapEs]
  | x :: l, i => by simp [mapEs, mapEs_append (l := l), Nat.add_assoc, Nat.add_comm 1]

/-- how a key of the type kt is written, and that the model's tests on keys are equality -/
class KeyT (P : Program) (kt : TypeId) (κ : Type) [DecidableEq κ] (ck : κ → Value) : Prop where
  check : ∀ (em : Bool) (k : κ) (w : World), (Instr.checkKey em 10000 kt (ck k)).run P w = .ok () w
  same : ∀ k : κ, Instr.sameBits 10000 (ck k) (ck k) = true
  find : ∃ d, P.underlying kt = some d ∧ ((∀ a b : κ, Instr.sameNow d (ck a) (ck b) = some (decide (a = b))) ∨
    ((∀ a b : κ, Instr.sameNow d (ck a) (ck b) = none) ∧ ∀ (a b : κ) (w : World), (Op.equal kt (ck a) (ck b)).run P w = .ok (decide (a = b)) w))
class EncV {α : Type} (f : α → Value) (v : Value) (x : outParam α) : Prop where
  h : v = f x
instance (priority := low) EncV.same {α : Type} {f : α → Value} {x : α} : EncV f (f x) x := ⟨rfl⟩
variable {P : Program} {w : World} {kt : TypeId} {ck : κ → Value} {cv : ν → Value}
theorem findNow_eq {d : TypeDesc} (h : ∀ a b : κ, Instr.sameNow d (ck a) (ck b) = some (decide (a = b))) (k : κ) : ∀ (l : List (κ × ν)) (i j : Nat), Instr.findNow d (ck k) (mapEs ck cv l i) j = some ((mGet l k).map fun v => (mIdx l k + j, cv v))
  | [], i, j => rfl
  | x :: l, i, j => by
    simp only [mapEs, Instr.findNow, h, mGet, mIdx]
    by_cases hx : x.1 = k
    · simp [hx]
    · have hx' : ¬ k = x.1 := fun e => hx e.symm
      simp only [hx, hx', decide_false, if_false, findNow_eq h k l (i + 1) (j + 1)]
      cases mGet l k <;> simp [Nat.add_assoc, Nat.add_comm 1]
theorem findAsking_eq (h : ∀ (a b : κ) (w : World), (Op.equal kt (ck a) (ck b)).run P w = .ok (decide (a = b)) w) (k : κ) : ∀ (l : List (κ × ν)) (i j : Nat), (Instr.findAsking kt (ck k) (mapEs ck cv l i) j).run P w = .ok ((mGet l k).map fun v => (mIdx l k + j, cv v)) w
  | [], i, j => rfl
  | x :: l, i, j => by
    simp only [mapEs, Instr.findAsking, Sem.run_bind, h, Result.andThen_ok, mGet, mIdx]
    by_cases hx : x.1 = k
    · simp [hx]
    · have hx' : ¬ k = x.1 := fun e => hx e.symm
      simp only [hx, hx', decide_false, if_false, Bool.false_eq_true, findAsking_eq h k l (i + 1) (j + 1)]
      cases mGet l k <;> simp [Nat.add_assoc, Nat.add_comm 1]
theorem run_find [K : KeyT P kt κ ck] (l : List (κ × ν)) (k : κ) : (Instr.findKey kt (ck k) (mapEs ck cv l 0)).run P w = .ok ((mGet l k).map fun v => (mIdx l k, cv v)) w := by
  obtain ⟨d, hd, h⟩ := K.find
  unfold Instr.findKey
  simp only [Sem.run_bind, run_underlying hd, Result.andThen_ok]
  rcases h with h | ⟨h1, h2⟩
  · rw [findNow_eq h]; rfl
  · cases l with
    | nil => rfl
    | cons x l =>
      simp only [mapEs, Instr.findNow, h1]
      exact findAsking_eq h2 k (x :: l) 0 0
theorem run_stays [K : KeyT P kt κ ck] (k : κ) : (Instr.keyThatStays (ck k) (ck k)).run P w = .ok (ck k) w := by
  unfold Instr.keyThatStays
  rw [if_pos (K.same k)]
  rfl
end
section
variable {κ ν : Type} [DecidableEq κ] {P : Program} {N : Ctx} {w0 : World} {e : Env} {As rest : List Ent} {ty : TypeId} {x y z : Operand} {ck : κ → Value} {cv : ν → Value}
theorem St.map {w : World} {b : Nat} {l : List (κ × ν)} [TakeO As b (mapO ck cv l) rest] (hs : St w0 w As) : (getObj b).run P w = .ok (.map (mapEs ck cv l 0).toArray l.length) w := by
  have hw : w.heap[b]? = some (mapO ck cv l) := by
    obtain ⟨H, bs, g⟩ := hs
    obtain ⟨bs', _, k⟩ := Sat.perm (inferInstance : TakeO As b (mapO ck cv l) rest).perm g.sat
    obtain ⟨_, _, hw, _⟩ := k
    exact hw
  unfold getObj
  simp only [Sem.run, hw]
  rfl
theorem St.setMap {w : World} {b : Nat} {l : List (κ × ν)} [h : TakeO As b (mapO ck cv l) rest] (hs : St w0 w As) (l' : List (κ × ν)) : St w0 { w with heap := w.heap.setIfInBounds b (mapO ck cv l') } (.ob b (mapO ck cv l') :: rest) := by
  obtain ⟨H, bs, g⟩ := Ents.perm h.perm w0 w hs
  obtain ⟨b1, b2, rfl, h1, h2⟩ := Sat.cons.1 g.sat
  obtain ⟨bs', hb1, hw, h3⟩ := h1
  simp only [Sat] at h3
  subst h3 hb1
  have hlt : b < w.heap.size := (Array.getElem?_eq_some_iff.1 hw).1
  have hother : ∀ k, k ≠ b → ({ w with heap := w.heap.setIfInBounds b (mapO ck cv l') } : World).heap[k]? = w.heap[k]? := fun k hk => by
    show (w.heap.setIfInBounds b _)[k]? = _
    rw [Array.getElem?_setIfInBounds, if_neg (Ne.symm hk)]
  have hb : ∀ k, H k ≠ none → k ≠ b := fun k hk he => hk (by subst he; exact g.ap _ (List.mem_append_left _ (List.mem_singleton.2 rfl)))
  refine ⟨H, [b] ++ b2, by simpa using g.size, g.os, g.tape, g.output, fun k o hk => ?_, g.old, Sat.cons.2 ⟨[b], b2, rfl, ⟨[], rfl, ?_, rfl⟩, Sat.move (FH.le_refl H) h2 fun k hk => hother k fun he => ?_⟩, g.nd, g.ap⟩
  · rw [hother k (hb k (by rw [hk]; simp))]; exact g.fz k o hk
  · show (w.heap.setIfInBounds b _)[b]? = _
    rw [Array.getElem?_setIfInBounds, if_pos rfl, if_pos hlt]
  · subst he
    exact (List.nodup_cons.1 g.nd).1 hk
theorem run_setMap {w : World} {b : Nat} {l : List (κ × ν)} {es : Array MapEntry} {c : Nat} (h : (getObj b).run P w = .ok (.map (mapEs ck cv l 0).toArray l.length) w) : (setObj b (.map es c)).run P w = .ok () { w with heap := w.heap.setIfInBounds b (.map es c) } := by
  unfold getObj at h
  unfold setObj
  simp only [Sem.run] at h ⊢
  cases hq : w.heap[b]? with
  | none => rw [hq] at h; simp at h
  | some o =>
    rw [hq] at h
    cases o with
    | cells c t f => simp at h
    | _ => rfl
theorem ExF.lookup {t kt el : TypeId} {b n b' : Nat} {l : List (κ × ν)} {zv u : Value} {k : κ} [UL P t (.map kt el)] [TI P el zv n b'] [K : KeyT P kt κ ck] (hx : ev e x = some (.map (some b))) [TakeO As b (mapO ck cv l) rest] (hy : ev e y = some u) [hk : EncV ck u k] :
    ExF P N w0 (.lookup t x y false) ty e As (((mGet l k).map cv).getD zv) := by
  unfold ExF
  intro a w ha hs d pos af g
  have h1 := St.map (P := P) (w0 := w0) (w := w) (As := As) (b := b) (l := l) (ck := ck) (cv := cv) (rest := rest) hs
  simp only [execOp, ha.eval hx, ha.eval hy, hk.h, Instr.lookup, Sem.run_bind, run_und, Result.andThen_ok, h1, K.check, run_find, Sem.run_pure]
  cases mGet l k <;> simp [run_zero]
theorem ExF.lookupOk {t kt el : TypeId} {b n b' : Nat} {l : List (κ × ν)} {zv u : Value} {k : κ} [UL P t (.map kt el)] [TI P el zv n b'] [K : KeyT P kt κ ck] (hx : ev e x = some (.map (some b))) [TakeO As b (mapO ck cv l) rest] (hy : ev e y = some u) [hk : EncV ck u k] :
    ExF P N w0 (.lookup t x y true) ty e As (.tuple #[((mGet l k).map cv).getD zv, .bool (mGet l k).isSome]) := by
  unfold ExF
  intro a w ha hs d pos af g
  have h1 := St.map (P := P) (w0 := w0) (w := w) (As := As) (b := b) (l := l) (ck := ck) (cv := cv) (rest := rest) hs
  simp only [execOp, ha.eval hx, ha.eval hy, hk.h, Instr.lookup, Sem.run_bind, run_und, Result.andThen_ok, h1, K.check, run_find, Sem.run_pure]
  cases mGet l k <;> simp [run_zero]
theorem mapEs_mod {l : List (κ × ν)} {k : κ} {v u : ν} (h : mGet l k = some v) (f : MapEntry → MapEntry) (hf : f ⟨ck k, cv v, mIdx l k⟩ = ⟨ck k, cv u, mIdx l k⟩) : (mapEs ck cv l 0).toArray.modify (mIdx l k) f = (mapEs ck cv (mSet l k u) 0).toArray := by
  obtain ⟨h1, h2⟩ := mIdx_lt h
  rw [mSet_idx h, mapEs_set h1]
  apply Array.toList_inj.1
  apply List.ext_getElem?
  intro j
  rw [Array.toList_modify, List.getElem?_modify, List.getElem?_set]
  simp only [mapEs_length, h1]
  by_cases hj : mIdx l k = j
  · subst hj
    simp [mapEs_get, h2, hf]
  · simp [hj]
theorem ExU.mapUpdate {t kt el : TypeId} {b : Nat} {l : List (κ × ν)} {u u' : Value} {k : κ} {v : ν} [UL P t (.map kt el)] [K : KeyT P kt κ ck] (hx : ev e x = some (.map (some b))) [TakeO As b (mapO ck cv l) rest] (hy : ev e y = some u) [hk : EncV ck u k] (hz : ev e z = some u') [hv : EncV cv u' v] :
    ExU P N w0 (.mapUpdate t x y z) ty e As (.ob b (mapO ck cv (mSet l k v)) :: rest) := by
  unfold ExU
  intro a w ha hs d pos af g
  have h1 := St.map (P := P) (w0 := w0) (w := w) (As := As) (b := b) (l := l) (ck := ck) (cv := cv) (rest := rest) hs
  refine ⟨_, ?_, St.setMap (w0 := w0) (w := w) (As := As) (b := b) (l := l) (ck := ck) (cv := cv) (rest := rest) hs (mSet l k v)⟩
  simp only [execOp, ha.eval hx, ha.eval hy, ha.eval hz, hk.h, hv.h, Instr.mapUpdate, Sem.run_bind, run_und, Result.andThen_ok, h1, K.check, run_find]
  cases hg : mGet l k with
  | none =>
    have e1 : mapEs ck cv (mSet l k v) 0 = mapEs ck cv l 0 ++ [⟨ck k, cv v, l.length⟩] := by rw [mSet_new hg, mapEs_append]; simp
    have e2 : (mSet l k v).length = l.length + 1 := by rw [mSet_new hg]; simp
    simp [run_setMap h1, mapO, e1, e2]
  | some v0 =>
    obtain ⟨g1, g2⟩ := mIdx_lt hg
    have e2 : (mSet l k v).length = l.length := by rw [mSet_idx hg]; simp
    have e3 : ((mapEs ck cv l 0).toArray[mIdx l k]?) = some ⟨ck k, cv v0, mIdx l k⟩ := by simp [mapEs_get, g2]
    have e4 := mapEs_mod (ck := ck) (cv := cv) (u := v) hg (fun e => { e with key := ck k, val := cv v }) rfl
    simp only [Option.map_some, e3, Option.getD_some, Sem.run_bind, run_stays (kt := kt), Result.andThen_ok, run_setMap h1, e4]
    simp [mapO, e2]
/-- the operations of 'm[k] op= v' -/
theorem ExR.mapEntry {t kt el : TypeId} {b n b' : Nat} {l : List (κ × ν)} {zv u : Value} {k : κ} {zn : ν} [UL P t (.map kt el)] [TI P el zv n b'] [K : KeyT P kt κ ck] (hx : ev e x = some (.map (some b))) [TakeO As b (mapO ck cv l) rest] (hy : ev e y = some u) [hk : EncV ck u k] [hz : EncV cv zv zn] :
    ExR P N w0 (.mapEntry t x y) ty e As (fun v As' => v = .tuple #[cv ((mGet l k).getD zn), .int .i64 (mIdx l k : Int)] ∧ As' = .ob b (mapO ck cv (mTouch l k zn)) :: rest) := by
  unfold ExR
  intro a w ha hs d pos af g
  have h1 := St.map (P := P) (w0 := w0) (w := w) (As := As) (b := b) (l := l) (ck := ck) (cv := cv) (rest := rest) hs
  refine ⟨_, _, _, ?_, ⟨rfl, rfl⟩, St.setMap (w0 := w0) (w := w) (As := As) (b := b) (l := l) (ck := ck) (cv := cv) (rest := rest) hs (mTouch l k zn)⟩
  simp only [execOp, ha.eval hx, ha.eval hy, hk.h, Instr.mapEntry, Sem.run_bind, run_und, Result.andThen_ok, h1, K.check, run_find]
  cases hg : mGet l k with
  | none =>
    have e1 : mapEs ck cv (mTouch l k zn) 0 = mapEs ck cv l 0 ++ [⟨ck k, cv zn, l.length⟩] := by rw [mTouch, hg, mSet_new hg, mapEs_append]; simp
    have e2 : (mTouch l k zn).length = l.length + 1 := by rw [mTouch, mSet_new hg]; simp
    simp [run_setMap h1, mapO, e1, e2, run_zero, hz.h, goInt, mIdx_new hg]
  | some v0 =>
    obtain ⟨g1, g2⟩ := mIdx_lt hg
    have e2 : (mTouch l k zn).length = l.length := by rw [mTouch, mSet_idx hg]; simp
    have e3 : ((mapEs ck cv l 0).toArray[mIdx l k]?) = some ⟨ck k, cv v0, mIdx l k⟩ := by simp [mapEs_get, g2]
    have e4 := mapEs_mod (ck := ck) (cv := cv) (u := v0) hg (fun e => { e with key := ck k }) rfl
    have e5 : mTouch l k zn = mSet l k v0 := by rw [mTouch, hg]; rfl
    simp only [Option.map_some, e3, Option.getD_some, Sem.run_bind, run_stays (kt := kt), Result.andThen_ok, run_setMap h1, e4]
    rw [e5] at e2
    simp [mapO, e2, e5, goInt]
theorem ExU.entryStore {t kt el : TypeId} {b : Nat} {l : List (κ × ν)} {u' : Value} {k : κ} {v zn : ν} [UL P t (.map kt el)] (hx : ev e x = some (.map (some b))) [TakeO As b (mapO ck cv (mTouch l k zn)) rest] (hy : ev e y = some (.int .i64 (mIdx l k : Int))) (hz : ev e z = some u') [hv : EncV cv u' v] :
    ExU P N w0 (.entryStore t x y z) ty e As (.ob b (mapO ck cv (mSet l k v)) :: rest) := by
  unfold ExU
  intro a w ha hs d pos af g
  have h1 := St.map (P := P) (w0 := w0) (w := w) (As := As) (b := b) (l := mTouch l k zn) (ck := ck) (cv := cv) (rest := rest) hs
  refine ⟨_, ?_, St.setMap (w0 := w0) (w := w) (As := As) (b := b) (l := mTouch l k zn) (ck := ck) (cv := cv) (rest := rest) hs (mSet l k v)⟩
  have hg : mGet (mTouch l k zn) k = some ((mGet l k).getD zn) := by rw [mTouch, mGet_set, if_pos rfl]
  have hi : mIdx (mTouch l k zn) k = mIdx l k := by rw [mTouch, mIdx_set]
  obtain ⟨g1, g2⟩ := mIdx_lt hg
  have e4 := mapEs_mod (ck := ck) (cv := cv) (u := v) hg (fun e => { e with val := cv v }) rfl
  rw [mSet_touch, hi] at e4
  rw [hi] at g1 g2
  have e2 : (mTouch l k zn).length = (mSet l k v).length := by
    cases hq : mGet l k with
    | none => rw [mTouch, mSet_new hq, mSet_new hq]; simp
    | some _ => rw [mTouch, mSet_idx hq, mSet_idx hq]; simp
  have hfind : (mapEs ck cv (mTouch l k zn) 0).toArray.findIdx? (fun e => (e.born : Int) == (mIdx l k : Int)) = some (mIdx l k) := by
    rw [Array.findIdx?_eq_some_iff_getElem]
    refine ⟨by simpa [mapEs_length] using g1, ?_, fun j hj => ?_⟩
    · have : (mapEs ck cv (mTouch l k zn) 0)[mIdx l k]? = some ⟨ck k, cv ((mGet l k).getD zn), 0 + mIdx l k⟩ := by rw [mapEs_get, g2]; rfl
      obtain ⟨_, h3⟩ := List.getElem?_eq_some_iff.1 this
      simp [h3]
    · have hj' : j < (mTouch l k zn).length := by omega
      have : (mapEs ck cv (mTouch l k zn) 0)[j]? = some ⟨ck (mTouch l k zn)[j].1, cv (mTouch l k zn)[j].2, 0 + j⟩ := by rw [mapEs_get, List.getElem?_eq_getElem hj']; rfl
      obtain ⟨_, h3⟩ := List.getElem?_eq_some_iff.1 this
      simp [h3]
      omega
  simp only [execOp, ha.eval hx, ha.eval hy, ha.eval hz, hv.h, Instr.entryStore, Sem.run_bind, h1, Result.andThen_ok, asInt, asIntOf, Sem.run_pure, hfind, run_setMap h1, e4]
  simp [mapO, e2]
end
end Go.Sx
