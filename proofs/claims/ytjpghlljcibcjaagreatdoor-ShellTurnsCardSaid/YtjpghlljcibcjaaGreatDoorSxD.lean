/- The engine: range over a map that is ours. -/
import Derived.Test.YtjpghlljcibcjaaGreatDoorSx6
import Derived.Test.YtjpghlljcibcjaaGreatDoorSx7
import Derived.Maps.RangeRun
namespace Go.Sx
open Go
set_option linter.unusedSectionVars false
/-- the entries of a map of n keys that are still to come -/
def toCome (n : Nat) (S : List Nat) : Nat := ((List.range n).filter fun i => !S.contains i).length
theorem filter_lt {p q : Nat → Bool} {l : List Nat} (hpq : ∀ x, q x = true → p x = true) {i : Nat} (hi : i ∈ l) (h1 : p i = true) (h2 : q i = false) : (l.filter q).length < (l.filter p).length := by
  induction l with
  | nil => cases hi
  | cons a r ih =>
    have hle : ∀ r : List Nat, (r.filter q).length ≤ (r.filter p).length := fun r => by
      induction r with
      | nil => simp
      | cons b s ih' =>
        simp only [List.filter_cons]
        cases hq : q b with
        | true => rw [hpq b hq]; simpa using ih'
        | false =>
          cases hp : p b with
          | true => simp; omega
          | false => simpa using ih'
    rcases List.mem_cons.1 hi with rfl | hr
    · simp only [List.filter_cons, h1, h2, if_true, Bool.false_eq_true, if_false, List.length_cons]
      exact Nat.lt_succ_of_le (hle r)
    · have := ih hr
      simp only [List.filter_cons]
      cases hq : q a with
      | true => rw [hpq a hq]; simpa using this
      | false =>
        cases hp : p a with
        | true => simp; omega
        | false => simpa using this
theorem toCome_lt {n i : Nat} {S : List Nat} (hi : i < n) (hS : i ∉ S) : toCome n (S ++ [i]) < toCome n S := by
  unfold toCome
  refine filter_lt (fun x hx => ?_) (List.mem_range.2 hi) ?_ ?_
  · simp at hx ⊢; exact hx.1
  · simpa using hS
  · simp
def iterO (b n : Nat) (S : List Nat) : Obj := .mapIter (some b) n S.toArray n
section
variable {κ ν : Type} [DecidableEq κ] {P : Program} {N : Ctx} {w0 : World} {e : Env} {As rest : List Ent} {ty : TypeId} {x : Operand} {ck : κ → Value} {cv : ν → Value}
theorem St.mapObj {w : World} {b : Nat} {l : List (κ × ν)} [TakeO As b (mapO ck cv l) rest] (hs : St w0 w As) : w.heap[b]? = some (.map (mapEs ck cv l 0).toArray l.length) := St.getO (o := mapO ck cv l) (rest := rest) hs
theorem mapEs_mem {l : List (κ × ν)} {m : MapEntry} (h : m ∈ mapEs ck cv l 0) : ∃ i k u, l[i]? = some (k, u) ∧ m = ⟨ck k, cv u, i⟩ := by
  obtain ⟨j, hj⟩ := List.mem_iff_getElem?.1 h
  rw [mapEs_get] at hj
  cases hl : l[j]? with
  | none => rw [hl] at hj; cases hj
  | some y =>
    rw [hl] at hj
    obtain ⟨k, u⟩ := y
    simp at hj
    exact ⟨j, k, u, hl, hj.symm⟩
theorem mapEs_born {l : List (κ × ν)} {m : MapEntry} (h : m ∈ mapEs ck cv l 0) : m.born < l.length := by
  obtain ⟨i, k, u, h1, rfl⟩ := mapEs_mem h
  exact (List.getElem?_eq_some_iff.1 h1).1
theorem mapEs_borns : ∀ {l : List (κ × ν)} {i : Nat}, (mapEs ck cv l i).map (·.born) = List.range' i l.length
  | [], _ => rfl
  | x :: l, i => by simp [mapEs, mapEs_borns (l := l), List.range'_succ]
/-- a key that is not there -/
theorem ExF.lookupZ {t kt el : TypeId} {y : Operand} {b n b' : Nat} {l : List (κ × ν)} {zv u : Value} {k : κ} [UL P t (.map kt el)] [TI P el zv n b'] [K : KeyT P kt κ ck] (hx : ev e x = some (.map (some b))) [TakeO As b (mapO ck cv l) rest] (hy : ev e y = some u) [hk : EncV ck u k] (hm : mGet l k = none) :
    ExF P N w0 (.lookup t x y false) ty e As zv := by
  have := ExF.lookup (P := P) (N := N) (w0 := w0) (ty := ty) (t := t) (l := l) (ck := ck) (cv := cv) (rest := rest) (As := As) (b := b) hx hy
  rw [hm] at this
  exact this
/-- 'range m' -/
theorem ExR.rangeMap {t kt el : TypeId} {b : Nat} {l : List (κ × ν)} [hu : UL P t (.map kt el)] (hx : ev e x = some (.map (some b))) [TakeO As b (mapO ck cv l) rest] :
    ExR P N w0 (.range t x) ty e As (RB (fun r => .pointer (some ⟨r, 0, none⟩)) (fun r => .ob r (iterO b l.length []) :: As)) := by
  unfold ExR
  intro a w ha hs d pos af g
  have h1 := St.mapObj (ck := ck) (cv := cv) (rest := rest) (b := b) (l := l) hs
  have h2 := run_range_map (P := P) w t kt el b _ _ hu.h h1
  refine ⟨_, _, _, ?_, ⟨w.heap.size, rfl, rfl⟩, St.alloc_ob hs _⟩
  simp only [execOp, ha.eval hx, Sem.run_bind, h2, Result.andThen_ok]
  rfl
/-- the step: nothing is left, or an entry, whichever -/
theorem ExR.nextMap {b r n : Nat} {S : List Nat} {l : List (κ × ν)} {rest' : List Ent} (hx : ev e x = some (.pointer (some ⟨r, 0, none⟩))) [hi : TakeO As r (iterO b n S) rest] [hm : TakeO rest b (mapO ck cv l) rest'] (hn : n = l.length) :
    ExR P N w0 (.next x false) ty e As (fun v As' => (v = .tuple #[.bool false] ∧ As' = As) ∨ ∃ i k u, l[i]? = some (k, u) ∧ i ∉ S ∧ v = .tuple #[.bool true, ck k, cv u] ∧ As' = .ob r (iterO b n (S ++ [i])) :: rest) := by
  unfold ExR
  intro a w ha hs d pos af g
  subst hn
  have hr := St.getO (b := r) (o := iterO b l.length S) (rest := rest) hs
  have hs2 : St w0 w (.ob r (iterO b l.length S) :: rest) := Ents.perm hi.perm w0 w hs
  have hb : w.heap[b]? = some (.map (mapEs ck cv l 0).toArray l.length) := by
    haveI : TakeO (.ob r (iterO b l.length S) :: rest) b (mapO ck cv l) (.ob r (iterO b l.length S) :: rest') := inferInstance
    exact St.getO (b := b) (o := mapO ck cv l) hs2
  rcases run_next_at (P := P) w ty r b l.length l.length S.toArray (mapEs ck cv l 0).toArray l.length hr hb (fun x hx => mapEs_born (by simpa using hx)) (Nat.le_refl _) with ⟨_, h⟩ | ⟨m, hm1, w1, hw1, h⟩
  · refine ⟨_, w, As, ?_, .inl ⟨rfl, rfl⟩, hs⟩
    simp only [execOp, ha.eval hx, Sem.run_bind, h, Result.andThen_ok]
    rfl
  · have hm2 : m ∈ mapEs ck cv l 0 ∧ m.born ∉ S := by
      unfold leftOf at hm1
      simpa using hm1
    obtain ⟨i, k, u, h1, rfl⟩ := mapEs_mem hm2.1
    have hs3 : St w0 w1 As := by rcases hw1 with rfl | rfl; exact hs; exact hs.drew
    have e1 : iterO b l.length (S ++ [i]) = .mapIter (some b) l.length (S.toArray.push i) l.length := by simp [iterO]
    have h2 := St.setO (b := r) (o := iterO b l.length S) (rest := rest) hs3 (iterO b l.length (S ++ [i]))
    refine ⟨_, _, .ob r (iterO b l.length (S ++ [i])) :: rest, ?_, .inr ⟨i, k, u, h1, hm2.2, rfl, rfl⟩, h2⟩
    rw [e1]
    simp only [execOp, ha.eval hx, Sem.run_bind, h, Result.andThen_ok]
    rfl
/-- the round's key and value -/
theorem ExF.entryMap {b r n i : Nat} {S : List Nat} {l : List (κ × ν)} {k : κ} {u : ν} {rest' : List Ent} (hx : ev e x = some (.pointer (some ⟨r, 0, none⟩))) [hi : TakeO As r (iterO b n (S ++ [i])) rest] [hm : TakeO rest b (mapO ck cv l) rest'] (hn : n = l.length) (hk : l[i]? = some (k, u)) :
    ExF P N w0 (.entry x) ty e As (.tuple #[ck k, cv u]) := by
  unfold ExF
  intro a w ha hs d pos af g
  subst hn
  have hr := St.getO (b := r) (o := iterO b l.length (S ++ [i])) (rest := rest) hs
  have hs2 : St w0 w (.ob r (iterO b l.length (S ++ [i])) :: rest) := Ents.perm hi.perm w0 w hs
  have hb : w.heap[b]? = some (.map (mapEs ck cv l 0).toArray l.length) := by
    haveI : TakeO (.ob r (iterO b l.length (S ++ [i])) :: rest) b (mapO ck cv l) (.ob r (iterO b l.length (S ++ [i])) :: rest') := inferInstance
    exact St.getO (b := b) (o := mapO ck cv l) hs2
  have hr' : w.heap[r]? = some (.mapIter (some b) l.length (S.toArray.push (⟨ck k, cv u, i⟩ : MapEntry).born) l.length) := by
    rw [hr]; simp [iterO]
  have he : (⟨ck k, cv u, i⟩ : MapEntry) ∈ (mapEs ck cv l 0).toArray.toList := by
    refine List.mem_iff_getElem?.2 ⟨i, ?_⟩
    show (mapEs ck cv l 0)[i]? = _
    rw [mapEs_get, hk]; simp
  have hnd : ((mapEs ck cv l 0).toArray.toList.map (·.born)).Nodup := by
    show ((mapEs ck cv l 0).map (·.born)).Nodup
    rw [mapEs_borns]; exact List.nodup_range'
  have h := run_entry_at (P := P) w r b l.length S.toArray (mapEs ck cv l 0).toArray l.length ⟨ck k, cv u, i⟩ hr' hb he hnd
  simp only [execOp, ha.eval hx, Sem.run_bind, h, Result.andThen_ok]
  rfl
end
end Go.Sx
