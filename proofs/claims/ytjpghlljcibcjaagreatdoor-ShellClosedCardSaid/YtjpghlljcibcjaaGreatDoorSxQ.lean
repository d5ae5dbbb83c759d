/- The engine: clear(v) of a slice that is ours. -/
import Derived.Test.YtjpghlljcibcjaaGreatDoorSxB
namespace Go.Sx
open Go
section
variable {P : Program} {N : Ctx} {w0 w : World} {e : Env} {As rest : List Ent} {Q : Exit → Act → World → Prop} {ty : TypeId} {x y : Operand} {u v : Value} {α : Type} {c : Cod α} {xs ys : List α}
theorem zeroCells_one {z : Value} (n : Nat) : (Builtin.zeroCells #[z] n).toList = List.replicate n z := by
  simp [Builtin.zeroCells]
  apply List.ext_getElem
  · simp
  · intro i h1 h2
    simp [Nat.mod_one]
theorem flat_repl {z0 : α} {z : Value} (hz : c.enc z0 = [z]) : ∀ n, c.flat (List.replicate n z0) = List.replicate n z
  | 0 => rfl
  | n + 1 => by
    rw [List.replicate_succ, List.replicate_succ, ← flat_repl hz n]
    simp [Cod.flat, hz]
theorem ExR.clear1 {t el T : TypeId} {z0 : α} {z : Value} {by_ : Nat} [UL P t (.slice el)] [hel : ElC P el α c z0 by_] (hx : ev e x = some v) [h : TakeW As v c T xs rest] (hz : c.enc z0 = [z]) (h1 : z.oneCell' = true) :
    ExR P N w0 (.call ⟨.builtin .clear, #[x], #[t]⟩) ty e As (fun _ As' => As' = .ow c T v (List.replicate xs.length z0) :: rest) := by
  unfold ExR
  intro a w ha hs d pos af g
  have hcn : c.n = 1 := by rw [← c.len z0, hz]; rfl
  obtain ⟨i, zv, hi, hzv, _, _, hzc⟩ := hel.h
  have hzr : (zeroValue el).run P w = .ok zv w := by simp [zeroValue, typeInfo, hi, hzv]
  have hcells : zv.cells = #[z] := by
    apply Array.toList_inj.1
    rw [hzc, hz]
  obtain ⟨H, bs, G⟩ := Ents.perm h.perm w0 w hs
  rcases G.sat with ⟨⟨p, g1⟩, g2, _⟩ | ⟨b, bs', rfl, ⟨off, cap, front, rest', g1, h3, h4, h5, hw⟩, hrest⟩
  · subst g2
    refine ⟨.tuple #[], w, _, ?_, rfl, ⟨H, bs, G⟩⟩
    subst g1
    cases p <;> simp [execOp, ha.eval hx, resolve, invoke, builtin, Builtin.clear_, run_underlying (UL.h (P := P) (t := t))]
  · have hflx : (c.flat xs).length = xs.length := by rw [Cod.flat_length, hcn, Nat.mul_one]
    rcases Nat.eq_zero_or_pos xs.length with h0 | hpos
    · have hnil := List.length_eq_zero_iff.1 h0
      subst hnil
      refine ⟨.tuple #[], w, _, ?_, rfl, Ents.perm h.perm w0 w hs⟩
      subst g1
      simp [execOp, ha.eval hx, resolve, invoke, builtin, Builtin.clear_, run_underlying (UL.h (P := P) (t := t))]
    · obtain ⟨n, hn⟩ : ∃ n, xs.length = n + 1 := ⟨xs.length - 1, by omega⟩
      have hst := run_storeAll (P := P) (w := w) (b := b) (off := off) (vs := List.replicate xs.length z) hw (by simp only [List.length_append, List.length_replicate, hflx]; omega) (by intro v hv'; rw [List.eq_of_mem_replicate hv']; exact h1)
      have hrun : (Builtin.clear_ #[t] ty #[v]).run P w = .ok (.tuple #[]) (w.setRow b (setAll (front ++ c.flat xs ++ rest') off (List.replicate xs.length z)).toArray) := by
        rw [g1]
        rw [hn] at hst ⊢
        simp [Builtin.clear_, run_underlying (UL.h (P := P) (t := t)), hzr, hcells, zeroCells_one, hst]
      refine ⟨.tuple #[], _, _, ?_, rfl, H, b :: bs', G.setBlock (cs := (setAll (front ++ c.flat xs ++ rest') off (List.replicate xs.length z)).toArray) hrest fun w' hw' => ?_⟩
      · simp [execOp, ha.eval hx, resolve, invoke, builtin, hrun]
      · refine .inr ⟨b, [], rfl, ⟨off, cap, front, rest', by simpa using g1, h3, by simpa using h4, by simpa [Cod.flat_length] using h5, ?_⟩, rfl⟩
        rw [hw', setRow_get hw, flat_repl hz]
        congr 2
        rw [show off = front.length + 0 by omega, setAll_mid _ _ _ _ _ (by simp [hflx])]
        congr 2
        unfold setAll
        simp [hflx]
end
end Go.Sx
