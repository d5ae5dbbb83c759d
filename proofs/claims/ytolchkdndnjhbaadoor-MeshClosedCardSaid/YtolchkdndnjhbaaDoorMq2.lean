/- Meshes, plain: drafts are valid. -/
import Derived.Test.YtolchkdndnjhbaaDoorMq1
import Derived.Test.YtolchkdndnjhbaaDoorPl
namespace Go.Sx
open Go
/-- what does not depend on the points -/
def comb (n : Nat) (F : List V3) : Bool := (wrongF n F).isNone && (twiceF F).isNone && (openF F (ownF F)).isNone && (spareF n F).isNone && (apartF (fun u => (mGet (ownF F) u).getD 0) F).isNone
theorem comb_shape : ∀ k, k < 4 → comb (shapeP k).length (shapeF k) = true ∧ comb (shapeP k).length ((shapeF k).map swapF) = true ∧ flatF (shapeP k) (shapeF k) = none := by
  decide +kernel
theorem good_of {pts F : List V3} (h1 : 4 ≤ pts.length) (h2 : pts.length ≤ 300) (h3 : 4 ≤ F.length) (h4 : F.length ≤ 600) (hf : farF pts = none) (hc : comb pts.length F = true) (hl : flatF pts F = none) : Good pts F := by
  simp only [comb, Bool.and_eq_true, Option.isNone_iff_eq_none] at hc
  exact ⟨h1, h2, h3, h4, hf, hc.1.1.1.1, hl, hc.1.1.1.2, hc.1.1.2, hc.1.2, hc.2⟩
theorem ptAt_map {f : V3 → V3} {l : List V3} {i : Int} (h0 : 0 ≤ i) (h1 : i < l.length) : ptAt (l.map f) i = f (ptAt l i) := by
  have : i.toNat < l.length := by omega
  simp [ptAt, List.getElem?_map, List.getElem?_eq_getElem this]
theorem normal_lay {s : Int} {t a b c : V3} : ((V3.lay s t b).sub (V3.lay s t a)).cross ((V3.lay s t c).sub (V3.lay s t a)) = ⟨s * s * ((b.sub a).cross (c.sub a)).x, s * s * ((b.sub a).cross (c.sub a)).y, s * s * ((b.sub a).cross (c.sub a)).z⟩ := by
  simp only [V3.lay, V3.sub, V3.cross, V3.mk.injEq]
  refine ⟨?_, ?_, ?_⟩ <;> grind
theorem normal_turn {a b c : V3} : (c.sub a).cross (b.sub a) = ⟨-((b.sub a).cross (c.sub a)).x, -((b.sub a).cross (c.sub a)).y, -((b.sub a).cross (c.sub a)).z⟩ := by
  simp only [V3.sub, V3.cross, V3.mk.injEq]
  refine ⟨?_, ?_, ?_⟩ <;> grind
theorem mul_ne {s x : Int} (hs : s ≠ 0) (hx : x ≠ 0) : s * s * x ≠ 0 := Int.mul_ne_zero (Int.mul_ne_zero hs hs) hx
theorem flat_plain {k : Nat} {s : Int} {t : V3} (hk : k < 4) (hs : s ≠ 0) : flatF (plainM k s t) (shapeF k) = none := by
  have hc := (comb_shape k hk).1
  have hfl := (comb_shape k hk).2.2
  simp only [comb, Bool.and_eq_true, Option.isNone_iff_eq_none] at hc
  have hw := List.findIdx?_eq_none_iff.1 hc.1.1.1.1
  have hfl := List.findIdx?_eq_none_iff.1 hfl
  refine List.findIdx?_eq_none_iff.2 fun f hf => ?_
  have h1 := hw f hf
  have h2 := hfl f hf
  simp only [isWrong, Bool.or_eq_false_iff, decide_eq_false_iff_not] at h1
  simp only [isFlat, decide_eq_false_iff_not] at h2 ⊢
  intro h
  apply h2
  unfold normal plainM at h
  rw [ptAt_map (by omega) (by omega), ptAt_map (by omega) (by omega), ptAt_map (by omega) (by omega), normal_lay] at h
  unfold normal
  generalize ((ptAt (shapeP k) f.y).sub (ptAt (shapeP k) f.x)).cross ((ptAt (shapeP k) f.z).sub (ptAt (shapeP k) f.x)) = n at h
  obtain ⟨x, y, z⟩ := n
  simp only [V3.zero, V3.mk.injEq] at h ⊢
  have e : ∀ {x : Int}, s * s * x = 0 → x = 0 := fun {x} hx => Classical.byContradiction fun hne => mul_ne hs hne hx
  exact ⟨e h.1, e h.2.1, e h.2.2⟩
theorem flat_turn {pts F : List V3} (h : flatF pts F = none) : flatF pts (F.map swapF) = none := by
  have h := List.findIdx?_eq_none_iff.1 h
  refine List.findIdx?_eq_none_iff.2 fun g hg => ?_
  obtain ⟨f, hf, rfl⟩ := List.mem_map.1 hg
  have h2 := h f hf
  simp only [isFlat, decide_eq_false_iff_not] at h2 ⊢
  intro h3
  apply h2
  unfold normal at h3 ⊢
  simp only [swapF] at h3
  rw [normal_turn] at h3
  generalize ((ptAt pts f.y).sub (ptAt pts f.x)).cross ((ptAt pts f.z).sub (ptAt pts f.x)) = n at h3
  obtain ⟨x, y, z⟩ := n
  simp only [V3.zero, V3.mk.injEq] at h3 ⊢
  omega
theorem mul_le3 {x s : Int} (h1 : -3 ≤ x) (h2 : x ≤ 3) (h0 : 0 ≤ s) : -(3 * s) ≤ x * s ∧ x * s ≤ 3 * s := by
  have a := Int.mul_le_mul_of_nonneg_right h1 h0
  have b := Int.mul_le_mul_of_nonneg_right h2 h0
  omega
theorem far_plain {k : Nat} {s : Int} {t : V3} (hs0 : 0 ≤ s) (hs : s ≤ 26500) (ht : t.in 32768) : farF (plainM k s t) = none := by
  obtain ⟨t1, t2, t3, t4, t5, t6⟩ := ht
  refine List.findIdx?_eq_none_iff.2 fun p hp => ?_
  obtain ⟨q, hq, rfl⟩ := List.mem_map.1 hp
  obtain ⟨q1, q2, q3, q4, q5, q6⟩ := shapeP_in q hq
  have a1 := mul_le3 q1 q2 hs0
  have a2 := mul_le3 q3 q4 hs0
  have a3 := mul_le3 q5 q6 hs0
  have e1 : (V3.lay s t q).x = q.x * s + t.x := rfl
  have e2 : (V3.lay s t q).y = q.y * s + t.y := rfl
  have e3 : (V3.lay s t q).z = q.z * s + t.z := rfl
  generalize V3.lay s t q = v at e1 e2 e3
  simp only [isFar, Bool.or_eq_false_iff, decide_eq_false_iff_not]
  omega
theorem plainM_len {k : Nat} {s : Int} {t : V3} : (plainM k s t).length = (shapeP k).length := by simp [plainM]
theorem plain_ok {k : Nat} {s : Int} {t : V3} (hk : k < 4) (hs0 : 1 ≤ s) (hs : s ≤ 26500) (ht : t.in 32768) : okM (plainM k s t) (shapeF k) := by
  have h1 := shapeP_len (k := k)
  have h2 := shapeF_len (k := k)
  refine okM_good.2 (good_of (by rw [plainM_len]; omega) (by rw [plainM_len]; omega) (by omega) (by omega) (far_plain (by omega) hs ht) ?_ (flat_plain hk (by omega)))
  rw [plainM_len]; exact (comb_shape k hk).1
theorem base_ok {k : Nat} {s : Int} {t : V3} {off : List Int} (hk : k < 4) (hs0 : 1 ≤ s) (hs : s ≤ 26500) (ht : t.in 32768) : okM (baseM k s t off) (shapeF k) := by
  unfold baseM
  split
  · assumption
  · exact plain_ok hk hs0 hs ht
theorem turn_ok {k : Nat} {P : List V3} (hk : k < 4) (hl : P.length = (shapeP k).length) (h : okM P (shapeF k)) : okM P ((shapeF k).map swapF) := by
  have hg := okM_good.1 h
  refine okM_good.2 (good_of hg.p4 hg.p300 (by simpa using hg.f4) (by simpa using hg.f600) hg.far ?_ (flat_turn hg.flat))
  rw [hl]; exact (comb_shape k hk).2.1
theorem draftM_turned {k : Nat} {s : Int} {t : V3} {off : List Int} (hk : k < 4) (hs0 : 1 ≤ s) (hs : s ≤ 26500) (ht : t.in 32768) (b : Bool) : draftM k s t off b = (baseM k s t off, if b then (shapeF k).map swapF else shapeF k) := by
  unfold draftM
  cases b with
  | false => rfl
  | true => simp only [if_true]; rw [turnedM, if_pos (base_ok hk hs0 hs ht)]
theorem draftM_ok {k : Nat} {s : Int} {t : V3} {off : List Int} (hk : k < 4) (hs0 : 1 ≤ s) (hs : s ≤ 26500) (ht : t.in 32768) (b : Bool) : okM (draftM k s t off b).1 (draftM k s t off b).2 := by
  rw [draftM_turned hk hs0 hs ht]
  have h := base_ok (off := off) hk hs0 hs ht
  cases b with
  | false => exact h
  | true => exact turn_ok hk baseM_len h
end Go.Sx
