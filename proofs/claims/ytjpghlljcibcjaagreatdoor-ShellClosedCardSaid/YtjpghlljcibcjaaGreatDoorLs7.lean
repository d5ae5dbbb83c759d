/- Shells, plain: the shells of drafted grids. -/
import Derived.Test.YtjpghlljcibcjaaGreatDoorLs6
import Derived.Test.YtjpghlljcibcjaaGreatDoorSw7
namespace Go.Sx
open Go Go.Proofs.YtjpghlljcibcjaaGreatDoor
theorem gridP_get {d : D37} {b c : Nat} {p : Nat} : ∀ {n : Nat}, p < n → (gridP d b c n)[3 * p]? = some (d.out (cellN b c p)).x ∧ (gridP d b c n)[3 * p + 1]? = some (d.out (cellN b c p)).y ∧ (gridP d b c n)[3 * p + 2]? = some (d.out (cellN b c p)).z
  | 0, h => by omega
  | n + 1, h => by
    have hl := gridP_len (d := d) (b := b) (c := c) (n := n)
    rw [gridP_succ]
    rcases Nat.lt_or_ge p n with hp | hp
    · obtain ⟨h1, h2, h3⟩ := gridP_get (d := d) (b := b) (c := c) hp
      rw [List.getElem?_append_left (by omega), List.getElem?_append_left (by omega), List.getElem?_append_left (by omega)]
      exact ⟨h1, h2, h3⟩
    · have : p = n := by omega
      subst this
      rw [List.getElem?_append_right (by omega), List.getElem?_append_right (by omega), List.getElem?_append_right (by omega), hl]
      rw [show 3 * p - 3 * p = 0 by omega, show 3 * p + 1 - 3 * p = 1 by omega, show 3 * p + 2 - 3 * p = 2 by omega]
      exact ⟨rfl, rfl, rfl⟩
theorem lin_in {s g : Nat} {x y : Int} (hs : s < 10000) (hg : g < 256) (hx : 0 ≤ x ∧ x ≤ 4) (hy : 0 ≤ y ∧ y ≤ 4) : 0 ≤ 8000 + (s : Int) * x + 8 * (g : Int) * y ∧ 8000 + (s : Int) * x + 8 * (g : Int) * y ≤ 65535 := by
  have h1 := Int.mul_le_mul (show (s : Int) ≤ 9999 by omega) hx.2 hx.1 (by omega)
  have h2 := Int.mul_le_mul (show 8 * (g : Int) ≤ 2040 by omega) hy.2 hy.1 (by omega)
  have h3 : 0 ≤ (s : Int) * x := Int.mul_nonneg (by omega) hx.1
  have h4 : 0 ≤ 8 * (g : Int) * y := Int.mul_nonneg (by omega) hy.1
  omega
def inW (p : V3) : Prop := (0 ≤ p.x ∧ p.x ≤ 65535) ∧ (0 ≤ p.y ∧ p.y ≤ 65535) ∧ (0 ≤ p.z ∧ p.z ≤ 65535)
theorem out_in {d : D37} (h : d.ok) {i j k : Nat} (hi : i ≤ 4) (hj : j ≤ 4) (hk : k ≤ 4) : inW (d.out ⟨i, j, k⟩) := by
  obtain ⟨ht, ⟨_, a0⟩, ⟨_, a1⟩, ⟨_, a2⟩, b0, b1, b2⟩ := h
  have hc : ∀ o, 0 ≤ comp ⟨i, j, k⟩ o ∧ comp ⟨i, j, k⟩ o ≤ 4 := fun o => by
    unfold comp
    split
    · dsimp only; omega
    · split <;> dsimp only <;> omega
  exact ⟨lin_in a0 b0 (hc _) (hc _), lin_in a1 b1 (hc _) (hc _), lin_in a2 b2 (hc _) (hc _)⟩
theorem near_le {n w : Int} (h0 : 0 ≤ n) (h1 : n ≤ 65535) (h2 : 0 ≤ w) : 0 ≤ nearI n w ∧ nearI n w ≤ w := by
  have a := Int.mul_le_mul (show 2 * n ≤ 131070 by omega) (Int.le_refl w) h2 (by omega)
  have b : 0 ≤ 2 * n * w := Int.mul_nonneg (by omega) h2
  unfold nearI
  omega
theorem col_far {p : V3} (h : inW p) : isFar (colV p) = false := by
  obtain ⟨⟨x0, x1⟩, ⟨y0, y1⟩, z0, z1⟩ := h
  have a := near_le x0 x1 (w := 100000) (by decide)
  have b := near_le y0 y1 (w := 256000) (by decide)
  have c := near_le z0 z1 (w := 256000) (by decide)
  unfold isFar colV colorV
  simp only [Bool.or_eq_false_iff]
  refine ⟨⟨⟨⟨⟨?_, ?_⟩, ?_⟩, ?_⟩, ?_⟩, ?_⟩ <;> refine decide_eq_false ?_
  all_goals omega
theorem col_R {p : V3} (h : inW p) : colorR [p.x, p.y, p.z] = (colV p, 0) := by
  obtain ⟨⟨x0, x1⟩, ⟨y0, y1⟩, z0, z1⟩ := h
  show (if (inR 0 65535 p.x && inR 0 65535 p.y && inR 0 65535 p.z) = true then (colorV p.x p.y p.z, (0 : Int)) else (V3.zero, 2)) = _
  rw [if_pos (by simp only [inR, Bool.and_eq_true, decide_eq_true_eq]; omega)]
  rfl
theorem cell_in {a b c p : Nat} (h : p < a * b * c) : ∃ i j k : Nat, cellN b c p = ⟨i, j, k⟩ ∧ i < a ∧ j < b ∧ k < c ∧ p = (i * b + j) * c + k := by
  have hb : 0 < b := Nat.pos_of_ne_zero fun hb => by rw [hb] at h; simp at h
  have hc : 0 < c := Nat.pos_of_ne_zero fun hc => by rw [hc] at h; simp at h
  refine ⟨p / c / b, p / c % b, p % c, rfl, ?_, Nat.mod_lt _ hb, Nat.mod_lt _ hc, ?_⟩
  · rw [Nat.div_lt_iff_lt_mul hb, Nat.div_lt_iff_lt_mul hc]; exact h
  · rw [Nat.div_add_mod', Nat.div_add_mod']
def phi (q : D37) (x : V3) : V3 := colV (q.out x)
theorem grid_ok {q : D37} (h : q.ok) {a b c : Nat} (hz : Sz a b c) : gridOk [(a : Int), (b : Int), (c : Int)] 3 (gridD q a b c) = true := by
  obtain ⟨a2, a5, b2, b4, c2, c4⟩ := hz
  have h1 := Nat.mul_le_mul a5 b4
  have h2 := Nat.mul_le_mul h1 c4
  have hl : (gridD q a b c).length = 3 * (a * b * c) := gridP_len
  refine gridOk_iff.2 ⟨by simp, by omega, ?_, ⟨by omega, ?_⟩, ?_⟩
  · intro x hx
    simp only [List.mem_cons, List.not_mem_nil, or_false] at hx
    omega
  · rw [hl]
    simp only [prodI, List.foldl]
    rw [Int.one_mul]
    push_cast
    omega
  · intro x hx
    unfold gridD gridP at hx
    obtain ⟨p, hp, hx⟩ := List.mem_flatMap.1 hx
    obtain ⟨i, j, k, e, hi, hj, hk, _⟩ := cell_in (List.mem_range.1 hp)
    rw [e] at hx
    obtain ⟨k1, k2, k3⟩ := out_in h (i := i) (j := j) (k := k) (by omega) (by omega) (by omega)
    simp only [nodeD, List.mem_cons, List.not_mem_nil, or_false] at hx
    rcases hx with rfl | rfl | rfl
    · exact k1
    · exact k2
    · exact k3
theorem grid_at {q : D37} {a b c i j k : Nat} (hi : i < a) (hj : j < b) (hk : k < c) :
    (gridD q a b c)[3 * ((i * b + j) * c + k)]? = some (q.out ⟨i, j, k⟩).x ∧ (gridD q a b c)[3 * ((i * b + j) * c + k) + 1]? = some (q.out ⟨i, j, k⟩).y ∧ (gridD q a b c)[3 * ((i * b + j) * c + k) + 2]? = some (q.out ⟨i, j, k⟩).z := by
  have := gridP_get (d := q) (b := b) (c := c) (lt_cells hi hj hk)
  rw [cell_at hj hk] at this
  exact this
theorem grid_pts {q : D37} {a b c : Nat} : shellP (gridD q a b c) a b c = (nodesF a b c).map (phi q) := by
  unfold shellP
  refine List.map_congr_left fun x hx => ?_
  obtain ⟨i, j, k, rfl, hi, hj, hk, _⟩ := node_in hx
  obtain ⟨h1, h2, h3⟩ := grid_at (q := q) hi hj hk
  have e : placeN b c ⟨(i : Int), (j : Int), (k : Int)⟩ = 3 * ((i * b + j) * c + k) := by simp [placeN]
  unfold pointV gAt
  rw [e, h1, h2, h3]
  rfl
theorem faceB_iff {L : List V3} {a b c : Nat} {f : V3} : faceB L a b c f = true ↔
    ((max (ptAt L f.x).x (max (ptAt L f.y).x (ptAt L f.z).x) - min (ptAt L f.x).x (min (ptAt L f.y).x (ptAt L f.z).x) ≤ 1 ∧ max (ptAt L f.x).y (max (ptAt L f.y).y (ptAt L f.z).y) - min (ptAt L f.x).y (min (ptAt L f.y).y (ptAt L f.z).y) ≤ 1) ∧ max (ptAt L f.x).z (max (ptAt L f.y).z (ptAt L f.z).z) - min (ptAt L f.x).z (min (ptAt L f.y).z (ptAt L f.z).z) ≤ 1) ∧
    (((((ptAt L f.x).x = (ptAt L f.y).x ∧ (ptAt L f.y).x = (ptAt L f.z).x) ∧ ((ptAt L f.x).x = 0 ∨ (ptAt L f.x).x + 1 = (a : Int))) ∨ (((ptAt L f.x).y = (ptAt L f.y).y ∧ (ptAt L f.y).y = (ptAt L f.z).y) ∧ ((ptAt L f.x).y = 0 ∨ (ptAt L f.x).y + 1 = (b : Int)))) ∨ (((ptAt L f.x).z = (ptAt L f.y).z ∧ (ptAt L f.y).z = (ptAt L f.z).z) ∧ ((ptAt L f.x).z = 0 ∨ (ptAt L f.x).z + 1 = (c : Int)))) := by
  simp only [faceB, Bool.and_eq_true, Bool.or_eq_true, decide_eq_true_eq]
theorem face_swap {L : List V3} {a b c : Nat} {f : V3} (h : faceB L a b c f = true) : faceB L a b c (swapF f) = true := by
  obtain ⟨x, y, z⟩ := f
  rw [faceB_iff] at h ⊢
  simp only [swapF] at h ⊢
  generalize ptAt L x = p at h ⊢
  generalize ptAt L y = q at h ⊢
  generalize ptAt L z = r at h ⊢
  rw [Int.max_comm r.x q.x, Int.min_comm r.x q.x, Int.max_comm r.y q.y, Int.min_comm r.y q.y, Int.max_comm r.z q.z, Int.min_comm r.z q.z]
  obtain ⟨h1, h2⟩ := h
  refine ⟨h1, ?_⟩
  clear h1
  omega
/-- what the shell of a drafted grid is -/
theorem grid_shell {q : D37} (h : q.ok) {a b c : Nat} (hz : Sz a b c) : ∃ F, shellR [(a : Int), (b : Int), (c : Int)] 3 (gridD q a b c) = (0, (nodesF a b c).map (phi q), F) ∧ Good ((nodesF a b c).map (phi q)) F ∧ 0 ≤ volM ((nodesF a b c).map (phi q)) F ∧ F.length = (shellF a b c).length ∧ ∀ f ∈ F, faceB (nodesF a b c) a b c f = true := by
  have hst : Steps q.t (phi q) := D37.steps h
  have hf : ∀ x ∈ nodesF a b c, isFar (phi q x) = false := fun x hx => by
    obtain ⟨i, j, k, rfl, hi, hj, hk, _⟩ := node_in hx
    have := hz.a5; have := hz.b4; have := hz.c4
    exact col_far (out_in h (by omega) (by omega) (by omega))
  have hg := shell_good hz hst h.1 hf
  have ht := shell_turned hz hst h.1 hf
  obtain ⟨l1, l2, l3⟩ := hz.len
  have hb := hz.b
  simp only [sizeB, Bool.and_eq_true] at hb
  have hfa := List.all_eq_true.1 hb.2
  have e : shellR [(a : Int), (b : Int), (c : Int)] 3 (gridD q a b c) = shellM (gridD q a b c) a b c := shellR_three rfl (grid_ok h hz)
  rw [e]
  unfold shellM
  rw [if_neg (by omega), grid_pts, if_pos (okM_good.2 hg)]
  by_cases hv : volM ((nodesF a b c).map (phi q)) (shellF a b c) < 0
  · rw [if_pos hv]
    refine ⟨_, rfl, ht, ?_, by simp, fun f hf => ?_⟩
    · rw [volM_turn]; omega
    · obtain ⟨g, hg, rfl⟩ := List.mem_map.1 hf
      exact face_swap (hfa g hg)
  · rw [if_neg hv]
    exact ⟨_, rfl, hg, by omega, rfl, hfa⟩
end Go.Sx
