/- Shells, plain: the shells of drafted grids with an input turned round, and with two outputs exchanged; counts of points. Walks: ShellTurns. -/
import Derived.Test.YtjpghlljcibcjaaGreatDoorLs6
import Derived.Test.YtjpghlljcibcjaaGreatDoorLs0
import Derived.Test.YtjpghlljcibcjaaGreatDoorSxD
namespace Go.Sx
open Go Go.Proofs.YtjpghlljcibcjaaGreatDoor
/-- a node with an input turned round -/
def mirV (k a b c : Nat) (x : V3) : V3 := if k = 0 then ⟨(a : Int) - 1 - x.x, x.y, x.z⟩ else if k = 1 then ⟨x.x, (b : Int) - 1 - x.y, x.z⟩ else ⟨x.x, x.y, (c : Int) - 1 - x.z⟩
def cellsV (p : V3) : List Int := [p.x, p.y, p.z]
/-- the data of a grid: the outputs of its nodes -/
def genP (o : V3 → V3) (b c n : Nat) : List Int := (List.range n).flatMap fun p => cellsV (o (cellN b c p))
theorem genP_succ {o : V3 → V3} {b c n : Nat} : genP o b c (n + 1) = genP o b c n ++ cellsV (o (cellN b c n)) := by
  unfold genP
  rw [List.range_succ, List.flatMap_append]
  simp
theorem genP_len {o : V3 → V3} {b c : Nat} : ∀ {n : Nat}, (genP o b c n).length = 3 * n
  | 0 => rfl
  | n + 1 => by rw [genP_succ, List.length_append, genP_len]; simp [cellsV]; omega
theorem genP_get {o : V3 → V3} {b c : Nat} {p : Nat} : ∀ {n : Nat}, p < n → (genP o b c n)[3 * p]? = some (o (cellN b c p)).x ∧ (genP o b c n)[3 * p + 1]? = some (o (cellN b c p)).y ∧ (genP o b c n)[3 * p + 2]? = some (o (cellN b c p)).z
  | 0, h => by omega
  | n + 1, h => by
    have hl := genP_len (o := o) (b := b) (c := c) (n := n)
    rw [genP_succ]
    rcases Nat.lt_or_ge p n with hp | hp
    · obtain ⟨h1, h2, h3⟩ := genP_get (o := o) (b := b) (c := c) hp
      rw [List.getElem?_append_left (by omega), List.getElem?_append_left (by omega), List.getElem?_append_left (by omega)]
      exact ⟨h1, h2, h3⟩
    · have : p = n := by omega
      subst this
      rw [List.getElem?_append_right (by omega), List.getElem?_append_right (by omega), List.getElem?_append_right (by omega), hl]
      rw [show 3 * p - 3 * p = 0 by omega, show 3 * p + 1 - 3 * p = 1 by omega, show 3 * p + 2 - 3 * p = 2 by omega]
      exact ⟨rfl, rfl, rfl⟩
theorem gen_at {o : V3 → V3} {a b c i j k : Nat} (hi : i < a) (hj : j < b) (hk : k < c) :
    (genP o b c (a * b * c))[3 * ((i * b + j) * c + k)]? = some (o ⟨i, j, k⟩).x ∧ (genP o b c (a * b * c))[3 * ((i * b + j) * c + k) + 1]? = some (o ⟨i, j, k⟩).y ∧ (genP o b c (a * b * c))[3 * ((i * b + j) * c + k) + 2]? = some (o ⟨i, j, k⟩).z := by
  have := genP_get (o := o) (b := b) (c := c) (lt_cells hi hj hk)
  rw [cell_at hj hk] at this
  exact this
theorem gen_pts {o : V3 → V3} {a b c : Nat} : shellP (genP o b c (a * b * c)) a b c = (nodesF a b c).map fun x => colV (o x) := by
  unfold shellP
  refine List.map_congr_left fun x hx => ?_
  obtain ⟨i, j, k, rfl, hi, hj, hk, _⟩ := node_in hx
  obtain ⟨h1, h2, h3⟩ := gen_at (o := o) hi hj hk
  have e : placeN b c ⟨(i : Int), (j : Int), (k : Int)⟩ = 3 * ((i * b + j) * c + k) := by simp [placeN]
  unfold pointV gAt
  rw [e, h1, h2, h3]
  rfl
theorem gen_gridOk {o : V3 → V3} {a b c : Nat} (hz : Sz a b c) (h : ∀ i j k : Nat, i < a → j < b → k < c → inW (o ⟨i, j, k⟩)) : gridOk [(a : Int), (b : Int), (c : Int)] 3 (genP o b c (a * b * c)) = true := by
  obtain ⟨a2, a5, b2, b4, c2, c4⟩ := hz
  have h1 := Nat.mul_le_mul a5 b4
  have h2 := Nat.mul_le_mul h1 c4
  have hl : (genP o b c (a * b * c)).length = 3 * (a * b * c) := genP_len
  refine gridOk_iff.2 ⟨by simp, by omega, ?_, ⟨by omega, ?_⟩, ?_⟩
  · intro x hx
    simp only [List.mem_cons, List.not_mem_nil, or_false] at hx
    omega
  · rw [hl]
    simp only [prodI, List.foldl]
    rw [Int.one_mul]
    push_cast
    omega
  · intro x hx
    unfold genP at hx
    obtain ⟨p, hp, hx⟩ := List.mem_flatMap.1 hx
    obtain ⟨i, j, k, e, hi, hj, hk, _⟩ := cell_in (List.mem_range.1 hp)
    rw [e] at hx
    obtain ⟨k1, k2, k3⟩ := h i j k hi hj hk
    simp only [cellsV, List.mem_cons, List.not_mem_nil, or_false] at hx
    rcases hx with rfl | rfl | rfl
    · exact k1
    · exact k2
    · exact k3
def facesS (P : List V3) (a b c : Nat) : List V3 := if volM P (shellF a b c) < 0 then (shellF a b c).map swapF else shellF a b c
theorem facesS_len {P : List V3} {a b c : Nat} : (facesS P a b c).length = (shellF a b c).length := by unfold facesS; split <;> simp
/-- the shell of a grid whose sides make a valid mesh -/
theorem gen_shell {o : V3 → V3} {a b c : Nat} (hz : Sz a b c) (h : ∀ i j k : Nat, i < a → j < b → k < c → inW (o ⟨i, j, k⟩)) (hg : Good ((nodesF a b c).map fun x => colV (o x)) (shellF a b c)) :
    shellR [(a : Int), (b : Int), (c : Int)] 3 (genP o b c (a * b * c)) = (0, (nodesF a b c).map fun x => colV (o x), facesS ((nodesF a b c).map fun x => colV (o x)) a b c) := by
  obtain ⟨l1, l2, l3⟩ := hz.len
  have e : shellR [(a : Int), (b : Int), (c : Int)] 3 (genP o b c (a * b * c)) = shellM (genP o b c (a * b * c)) a b c := shellR_three rfl (gen_gridOk hz h)
  rw [e]
  unfold shellM facesS
  rw [if_neg (by omega), gen_pts, if_pos (okM_good.2 hg)]
theorem mir_step {k a b c ax : Nat} {x : V3} (hk : k < 3) (hax : ax < 3) : mirV k a b c (stepV x ax) = stepV (mirV k a b c x) ax ∨ mirV k a b c x = stepV (mirV k a b c (stepV x ax)) ax := by
  have h1 : k = 0 ∨ k = 1 ∨ k = 2 := by omega
  have h2 : ax = 0 ∨ ax = 1 ∨ ax = 2 := by omega
  rcases h1 with rfl | rfl | rfl <;> rcases h2 with rfl | rfl | rfl <;> simp [mirV, stepV] <;> omega
theorem Steps.mir {t : Nat} {φ : V3 → V3} (h : Steps t φ) (ht : t < 6) {k a b c : Nat} (hk : k < 3) : Steps t fun x => φ (mirV k a b c x) := by
  intro o ho x
  have hlt : ∀ o, o < 3 → ordT t o < 3 := fun o ho => by
    obtain ⟨⟨b0, b1, b2⟩, _⟩ := ordT_lt t ht
    rcases (by omega : o = 0 ∨ o = 1 ∨ o = 2) with rfl | rfl | rfl
    · exact b0
    · exact b1
    · exact b2
  constructor
  · rcases mir_step (a := a) (b := b) (c := c) (x := x) hk (hlt o ho) with e | e
    · show comp (φ (mirV k a b c (stepV x _))) o ≠ comp (φ (mirV k a b c x)) o
      rw [e]; exact (h o ho _).1
    · show comp (φ (mirV k a b c (stepV x _))) o ≠ comp (φ (mirV k a b c x)) o
      rw [e]; exact fun e2 => (h o ho _).1 e2.symm
  · rcases mir_step (a := a) (b := b) (c := c) (x := x) hk (hlt ((o + 2) % 3) (Nat.mod_lt _ (by omega))) with e | e
    · show comp (φ (mirV k a b c (stepV x _))) o = comp (φ (mirV k a b c x)) o
      rw [e]; exact (h o ho _).2
    · show comp (φ (mirV k a b c (stepV x _))) o = comp (φ (mirV k a b c x)) o
      rw [e]; exact (h o ho _).2.symm
/-- a node turned round, with natural numbers -/
def mirN (k a b c i j l : Nat) : Nat × Nat × Nat := if k = 0 then (a - 1 - i, j, l) else if k = 1 then (i, b - 1 - j, l) else (i, j, c - 1 - l)
theorem mir_nat {k a b c i j l : Nat} (hi : i < a) (hj : j < b) (hl : l < c) : ∃ i' j' l' : Nat, mirN k a b c i j l = (i', j', l') ∧ mirV k a b c ⟨i, j, l⟩ = ⟨i', j', l'⟩ ∧ i' < a ∧ j' < b ∧ l' < c ∧ onI a b c i' j' l' = onI a b c i j l := by
  unfold mirN mirV
  by_cases h0 : k = 0
  · rw [if_pos h0, if_pos h0]
    refine ⟨a - 1 - i, j, l, rfl, ?_, by omega, hj, hl, ?_⟩
    · simp only [V3.mk.injEq, and_self, and_true]; omega
    · rw [Bool.eq_iff_iff, onI_iff, onI_iff]; omega
  · rw [if_neg h0, if_neg h0]
    by_cases h1 : k = 1
    · rw [if_pos h1, if_pos h1]
      refine ⟨i, b - 1 - j, l, rfl, ?_, hi, by omega, hl, ?_⟩
      · simp only [V3.mk.injEq, and_true, true_and]; omega
      · rw [Bool.eq_iff_iff, onI_iff, onI_iff]; omega
    · rw [if_neg h1, if_neg h1]
      refine ⟨i, j, c - 1 - l, rfl, ?_, hi, hj, by omega, ?_⟩
      · simp only [V3.mk.injEq, true_and]; omega
      · rw [Bool.eq_iff_iff, onI_iff, onI_iff]; omega
theorem mir_mir {k a b c : Nat} {x : V3} : mirV k a b c (mirV k a b c x) = x := by
  unfold mirV
  split
  · obtain ⟨x, y, z⟩ := x; simp only [V3.mk.injEq, and_true]; omega
  · split
    · obtain ⟨x, y, z⟩ := x; simp only [V3.mk.injEq, and_true, true_and]; omega
    · obtain ⟨x, y, z⟩ := x; simp only [V3.mk.injEq, true_and]; omega
/-- the boundary nodes turned round are the boundary nodes -/
theorem mir_perm {k a b c : Nat} : ((nodesF a b c).map (mirV k a b c)).Perm (nodesF a b c) := by
  have hnd : (nodesF a b c).Nodup := nodes_nodup a b c (a * b * c)
  have hin : ∀ x ∈ nodesF a b c, mirV k a b c x ∈ nodesF a b c := fun x hx => by
    obtain ⟨i, j, l, rfl, hi, hj, hl, hon⟩ := node_in hx
    obtain ⟨i', j', l', _, e, hi', hj', hl', ho⟩ := mir_nat (k := k) hi hj hl
    rw [e]
    exact mem_nodes hi' hj' hl' (by rw [ho]; exact hon)
  refine (List.perm_ext_iff_of_nodup ?_ hnd).2 fun x => ⟨fun h => ?_, fun h => ?_⟩
  · unfold List.Nodup at hnd ⊢
    rw [List.pairwise_map]
    exact hnd.imp fun h1 h2 => h1 (by have := congrArg (mirV k a b c) h2; rwa [mir_mir, mir_mir] at this)
  · obtain ⟨y, hy, rfl⟩ := List.mem_map.1 h
    exact hin y hy
  · exact List.mem_map.2 ⟨_, hin x h, mir_mir⟩
/-! two outputs exchanged -/
theorem swap_pt {P : List V3} {i : Int} : ptAt (P.map swapF) i = swapF (ptAt P i) := by
  unfold ptAt
  rw [List.getElem?_map]
  cases P[i.toNat]? <;> rfl
theorem swap_normal {P : List V3} {f : V3} : normal (P.map swapF) f = ⟨-(normal P f).x, -(normal P f).z, -(normal P f).y⟩ := by
  unfold normal
  rw [swap_pt, swap_pt, swap_pt]
  simp only [V3.sub, V3.cross, swapF, V3.mk.injEq]
  refine ⟨?_, ?_, ?_⟩ <;> grind
theorem swap_faceV {P : List V3} {f : V3} : faceV (P.map swapF) f = - faceV P f := by
  unfold faceV
  rw [swap_pt, swap_pt, swap_pt]
  simp only [V3.dot, V3.cross, swapF]
  grind
theorem swap_vol {P F : List V3} : volM (P.map swapF) F = - volM P F := by
  unfold volM
  have : ∀ (l : List V3) (s : Int), l.foldl (fun s f => s + faceV (P.map swapF) f) (-s) = - l.foldl (fun s f => s + faceV P f) s := by
    intro l
    induction l with
    | nil => intro s; rfl
    | cons f l ih => intro s; rw [List.foldl_cons, List.foldl_cons, ← ih, swap_faceV, Int.neg_add]
  exact this F 0
theorem swap_far {p : V3} : isFar (swapF p) = isFar p := by
  unfold isFar swapF
  rw [Bool.eq_iff_iff]
  simp only [Bool.or_eq_true, decide_eq_true_eq]
  omega
theorem Good.swapP {P F : List V3} (h : Good P F) : Good (P.map swapF) F := by
  obtain ⟨a1, a2, a3, a4, h1, h2, h3, h4, h5, h6, h7⟩ := h
  refine ⟨by rw [List.length_map]; exact a1, by rw [List.length_map]; exact a2, a3, a4, ?_, by rw [List.length_map]; exact h2, ?_, h4, h5, by rw [List.length_map]; exact h6, h7⟩
  · refine List.findIdx?_eq_none_iff.2 fun p hp => ?_
    obtain ⟨x, hx, rfl⟩ := List.mem_map.1 hp
    rw [swap_far]
    exact (List.findIdx?_eq_none_iff.1 h1) x hx
  · refine List.findIdx?_eq_none_iff.2 fun f hf => ?_
    have := (List.findIdx?_eq_none_iff.1 h3) f hf
    unfold isFlat at this ⊢
    rw [swap_normal]
    generalize normal P f = n at this
    obtain ⟨n1, n2, n3⟩ := n
    simp only [decide_eq_false_iff_not, V3.zero, V3.mk.injEq] at this ⊢
    omega
/-- the volume of a shell does not depend on which of two outputs comes first -/
theorem vol_facesS {P : List V3} {a b c : Nat} : volM (P.map swapF) (facesS (P.map swapF) a b c) = volM P (facesS P a b c) := by
  have e := swap_vol (P := P) (F := shellF a b c)
  unfold facesS
  by_cases h1 : volM P (shellF a b c) < 0
  · rw [if_pos h1, volM_turn, if_neg (by rw [e]; omega), e]
  · rw [if_neg h1]
    by_cases h2 : volM (P.map swapF) (shellF a b c) < 0
    · rw [if_pos h2, volM_turn, e, Int.neg_neg]
    · rw [if_neg h2, e]; rw [e] at h2; omega
theorem good_facesS {P : List V3} {a b c : Nat} (h1 : Good P (shellF a b c)) (h2 : Good P ((shellF a b c).map swapF)) : Good P (facesS P a b c) := by
  unfold facesS; split
  · exact h2
  · exact h1
/-- the three shells of the law -/
theorem turns_plain {q : D37} (hq : q.ok) {a b c k : Nat} (hz : Sz a b c) (hk : k < 3) : ∃ P1 P2 F1 F2 F3 : List V3,
    shellR [(a : Int), (b : Int), (c : Int)] 3 (gridD q a b c) = (0, P1, F1) ∧ shellR [(a : Int), (b : Int), (c : Int)] 3 (genP (fun x => q.out (mirV k a b c x)) b c (a * b * c)) = (0, P2, F2) ∧
    shellR [(a : Int), (b : Int), (c : Int)] 3 (genP (fun x => swapF (q.out x)) b c (a * b * c)) = (0, P1.map swapF, F3) ∧ Good P1 F1 ∧ Good (P1.map swapF) F3 ∧ volM (P1.map swapF) F3 = volM P1 F1 ∧ P2.Perm P1 ∧ F1.length = F2.length ∧ P1.length ≤ 300 ∧ F1.length ≤ 600 := by
  have a5 := hz.a5; have b4 := hz.b4; have c4 := hz.c4
  have hst : Steps q.t (phi q) := D37.steps hq
  have i1 : ∀ i j l : Nat, i < a → j < b → l < c → inW (q.out ⟨i, j, l⟩) := fun i j l hi hj hl => out_in hq (by omega) (by omega) (by omega)
  have i2 : ∀ i j l : Nat, i < a → j < b → l < c → inW (q.out (mirV k a b c ⟨i, j, l⟩)) := fun i j l hi hj hl => by
    obtain ⟨i', j', l', _, e, hi', hj', hl', _⟩ := mir_nat (k := k) hi hj hl
    rw [e]; exact i1 i' j' l' hi' hj' hl'
  have i3 : ∀ i j l : Nat, i < a → j < b → l < c → inW (swapF (q.out ⟨i, j, l⟩)) := fun i j l hi hj hl => by
    obtain ⟨k1, k2, k3⟩ := i1 i j l hi hj hl
    exact ⟨k1, k3, k2⟩
  have f1 : ∀ x ∈ nodesF a b c, isFar (phi q x) = false := fun x hx => by
    obtain ⟨i, j, l, rfl, hi, hj, hl, _⟩ := node_in hx
    exact col_far (i1 i j l hi hj hl)
  have f2 : ∀ x ∈ nodesF a b c, isFar (phi q (mirV k a b c x)) = false := fun x hx => by
    obtain ⟨i, j, l, rfl, hi, hj, hl, _⟩ := node_in hx
    exact col_far (i2 i j l hi hj hl)
  have g1 := shell_good hz hst hq.1 f1
  have g1' := shell_turned hz hst hq.1 f1
  have g2 := shell_good hz (hst.mir (a := a) (b := b) (c := c) hq.1 hk) hq.1 f2
  have e3 : ((nodesF a b c).map fun x => colV (swapF (q.out x))) = ((nodesF a b c).map (phi q)).map swapF := by
    rw [List.map_map]; rfl
  have s1 := gen_shell (o := q.out) hz i1 g1
  have s2 := gen_shell (o := fun x => q.out (mirV k a b c x)) hz i2 g2
  have s3 := gen_shell (o := fun x => swapF (q.out x)) hz i3 (by rw [e3]; exact g1.swapP)
  rw [e3] at s3
  have hG := good_facesS g1 g1'
  have hG3 : Good (((nodesF a b c).map (phi q)).map swapF) (facesS (((nodesF a b c).map (phi q)).map swapF) a b c) := good_facesS g1.swapP g1'.swapP
  refine ⟨_, _, _, _, _, s1, s2, s3, hG, hG3, vol_facesS, ?_, ?_, hG.p300, hG.f600⟩
  · have := (mir_perm (k := k) (a := a) (b := b) (c := c)).map (phi q)
    rw [List.map_map] at this
    exact this
  · rw [facesS_len, facesS_len]
/-! what the law counts -/
def incM (M : List (V3 × Int)) (p : V3) (d : Int) : List (V3 × Int) := mSet M p ((mGet M p).getD 0 + d)
def seenM (A B : List V3) : Nat → List (V3 × Int)
  | 0 => []
  | n + 1 => incM (incM (seenM A B n) (ptAt A n) 1) (ptAt B n) (-1)
def KeysOne (M : List (V3 × Int)) : Prop := (M.map Prod.fst).Nodup
theorem keys_set {M : List (V3 × Int)} {p : V3} {n : Int} (h : KeysOne M) : KeysOne (mSet M p n) ∧ ∀ q, q ∈ (mSet M p n).map Prod.fst → q = p ∨ q ∈ M.map Prod.fst := by
  unfold KeysOne at h ⊢
  induction M with
  | nil => simp [mSet]
  | cons x M ih =>
    rw [List.map_cons, List.nodup_cons] at h
    obtain ⟨i1, i2⟩ := ih h.2
    simp only [mSet]
    by_cases hx : x.1 = p
    · rw [if_pos hx, List.map_cons, List.nodup_cons]
      refine ⟨⟨by rw [← hx]; exact h.1, h.2⟩, fun q hq => ?_⟩
      rw [List.mem_cons] at hq
      rcases hq with rfl | hq
      · exact .inl rfl
      · exact .inr (List.mem_cons_of_mem _ hq)
    · rw [if_neg hx, List.map_cons, List.nodup_cons]
      refine ⟨⟨fun hm => ?_, i1⟩, fun q hq => ?_⟩
      · rcases i2 _ hm with e | e
        · exact hx e
        · exact h.1 e
      · rw [List.mem_cons] at hq
        rcases hq with rfl | hq
        · exact .inr (List.mem_cons_self ..)
        · rcases i2 q hq with e | e
          · exact .inl e
          · exact .inr (List.mem_cons_of_mem _ e)
theorem keys_get {M : List (V3 × Int)} {p : V3} {n : Int} (h : KeysOne M) : ∀ {j : Nat}, M[j]? = some (p, n) → mGet M p = some n := by
  unfold KeysOne at h
  induction M with
  | nil => intro j hj; simp at hj
  | cons x M ih =>
    intro j hj
    rw [List.map_cons, List.nodup_cons] at h
    simp only [mGet]
    cases j with
    | zero => simp at hj; rw [hj]; simp
    | succ j =>
      have hj : M[j]? = some (p, n) := by simpa using hj
      have : x.1 ≠ p := fun e => h.1 (by rw [e]; exact List.mem_map.2 ⟨(p, n), List.mem_of_getElem? hj, rfl⟩)
      rw [if_neg this]
      exact ih h.2 hj
theorem seen_keys {A B : List V3} : ∀ n, KeysOne (seenM A B n)
  | 0 => List.nodup_nil
  | n + 1 => (keys_set (keys_set (seen_keys n)).1).1
def cntP (p : V3) (A : List V3) (n : Nat) : Int := ((A.take n).count p : Nat)
theorem cntP_succ {p : V3} {A : List V3} {n : Nat} (h : n < A.length) : cntP p A (n + 1) = cntP p A n + (if ptAt A n = p then 1 else 0) := by
  have e : A[n]? = some A[n] := List.getElem?_eq_getElem h
  have e2 : ptAt A n = A[n] := by unfold ptAt; rw [Int.toNat_natCast, e]; rfl
  unfold cntP
  rw [List.take_succ_eq_append_getElem h, List.count_append, e2]
  simp only [List.count_cons, List.count_nil, beq_iff_eq]
  split <;> simp
theorem seen_get {A B : List V3} {p : V3} : ∀ {n : Nat}, n ≤ A.length → n ≤ B.length → (mGet (seenM A B n) p).getD 0 = cntP p A n - cntP p B n
  | 0, _, _ => by simp [seenM, mGet, cntP]
  | n + 1, ha, hb => by
    have ih := fun p => seen_get (A := A) (B := B) (p := p) (n := n) (by omega) (by omega)
    rw [cntP_succ (by omega), cntP_succ (by omega)]
    simp only [seenM, incM]
    rw [mGet_set]
    by_cases h1 : ptAt B n = p
    · rw [if_pos h1, if_pos h1, h1, Option.getD_some, mGet_set]
      by_cases h2 : ptAt A n = p
      · rw [if_pos h2, if_pos h2, h2, Option.getD_some, ih]; omega
      · rw [if_neg h2, if_neg h2, ih]; omega
    · rw [if_neg h1, if_neg h1, mGet_set]
      by_cases h2 : ptAt A n = p
      · rw [if_pos h2, if_pos h2, h2, Option.getD_some, ih]; omega
      · rw [if_neg h2, if_neg h2, ih]; omega
theorem cntP_in {p : V3} {A : List V3} {n : Nat} : 0 ≤ cntP p A n ∧ cntP p A n ≤ A.length := by
  have := List.count_le_length (a := p) (l := A.take n)
  rw [List.length_take] at this
  unfold cntP
  omega
theorem seen_all {A B : List V3} (h : B.Perm A) {j : Nat} {p : V3} {n : Int} (hj : (seenM A B A.length)[j]? = some (p, n)) : n = 0 := by
  have h1 := keys_get (seen_keys _) hj
  have h2 := seen_get (A := A) (B := B) (p := p) (n := A.length) (Nat.le_refl _) (by rw [h.length_eq]; exact Nat.le_refl _)
  rw [h1] at h2
  unfold cntP at h2
  rw [List.take_length, List.take_of_length_le (by rw [h.length_eq]; exact Nat.le_refl _), h.count_eq] at h2
  simpa using h2
end Go.Sx
namespace Go.Sx
open Go
def cIv (n : Int) : Value := .int .i64 n
instance {n : Int} : EncV cIv (.int .i64 n) n := ⟨rfl⟩
theorem look_iv {M : List (V3 × Int)} {p : V3} : (Option.map cIv (mGet M p)).getD (.int .i64 0) = .int .i64 ((mGet M p).getD 0) := by cases mGet M p <;> rfl
theorem look_touch {M : List (V3 × Int)} {p : V3} : (Option.map cIv (mGet (mTouch M p 0) p)).getD (.int .i64 0) = .int .i64 ((mGet M p).getD 0) := by
  unfold mTouch
  rw [mGet_set, if_pos rfl]
  rfl
end Go.Sx
namespace Go.Proofs.YtjpghlljcibcjaaGreatDoor
open Go Go.Sx
variable {w0 : World} {As : List Ent}
set_option maxRecDepth 100000 in
set_option maxHeartbeats 16000000 in
theorem shellTurns_ok (ht : Tab w0) (d : D37A) (hd : d.ok) {ax : Nat} (hax : ax < 256) : CallsS Tryz.prog w0 6 [.agg d.cells.toArray, .int .u8 (ax : Int)] As fun u _ => u = .bool true := by
  have hq := d.dok hd
  have hz := d.szOk
  have hgr := fun As : List Ent => grid37_ok (w0 := w0) (As := As) d hd
  generalize d.d = q at hq hgr
  generalize d.a = a at hz hgr
  generalize d.b = b at hz hgr
  generalize d.c = c at hz hgr
  have ek : (ax : Int) % 3 = ((ax % 3 : Nat) : Int) := by omega
  have hk3 : ax % 3 < 3 := Nat.mod_lt _ (by decide)
  refine CallsS.of_tri Tryz.func6 rfl Tryz.ntmps6 rfl ?_
  simp only [D37A.cells]
  (repeat' (first | (show TL _ _ _ _ (_ :: _) _ _ _; first | refine TL.sa ?_ | (refine TL.na ?_; intro _)) | (first | refine Stp.h ?_ | refine Post.then_normal ?_ | refine Post.next ?_ | refine Post.block_other rfl ?_) | refine Tri.ca ?_))
  refine TL.call rfl rfl rfl (works_ok ht) ?_
  rintro _ As ⟨rfl, rfl⟩
  (repeat' (first | (show TL _ _ _ _ (_ :: _) _ _ _; first | refine TL.sa ?_ | (refine TL.na ?_; intro _)) | (first | refine Stp.h ?_ | refine Post.then_normal ?_ | refine Post.next ?_ | refine Post.block_other rfl ?_) | refine Tri.ca ?_))
  refine TL.callv rfl rfl rfl rfl (hgr _) ?_
  rintro _ _ ⟨sv, dv, rfl, rfl⟩
  have hDl : (gridD q a b c).length = 3 * (a * b * c) := gridP_len
  refine TL.rdSl (c := cI .i64) (xs := gridD q a b c) dv ?_
  rintro dp dc rfl
  refine TL.rdSl (c := cI .i64) (xs := [(a : Int), (b : Int), (c : Int)]) sv ?_
  rintro sp sc rfl
  rw [show ([(a : Int), (b : Int), (c : Int)] : List Int).length = 3 from rfl]
  (repeat' (first | (show TL _ _ _ _ (_ :: _) _ _ _; first | refine TL.sa ?_ | (refine TL.na ?_; intro _)) | (first | refine Stp.h ?_ | refine Post.then_normal ?_ | refine Post.next ?_ | refine Post.block_other rfl ?_) | refine Tri.ca ?_))
  rw [ek]
  generalize ax % 3 = k at hk3
  (repeat' (first | (show TL _ _ _ _ (_ :: _) _ _ _; first | refine TL.sa ?_ | (refine TL.na ?_; intro _)) | (first | refine Stp.h ?_ | refine Post.then_normal ?_ | refine Post.next ?_ | refine Post.block_other rfl ?_) | refine Tri.ca ?_))
  rename_i b5
  obtain ⟨P1, P2, F1, F2, F3, r1, r2, r3, G1, G3, hv, hperm, hFl, hP300, hF600⟩ := turns_plain hq hz hk3
  have hsm : a * b * c ≤ 80 := Nat.mul_le_mul (Nat.mul_le_mul hz.a5 hz.b4) hz.c4
  have hz0 := hz
  obtain ⟨a2, a5, bb2, bb4, c2, c4⟩ := hz
  have g0 : ([(a : Int), (b : Int), (c : Int)] : List Int)[0]? = some (a : Int) := rfl
  have g1 : ([(a : Int), (b : Int), (c : Int)] : List Int)[1]? = some (b : Int) := rfl
  have g2 : ([(a : Int), (b : Int), (c : Int)] : List Int)[2]? = some (c : Int) := rfl
  have gl : ([(a : Int), (b : Int), (c : Int)] : List Int).length = 3 := rfl
  generalize hS : [(a : Int), (b : Int), (c : Int)] = S at g0 g1 g2 gl r1 r2 r3 ⊢
  refine Tri.mid (fun e' As' => ∃ b7 b8, e' = [(5, .pointer (some ⟨b5, 0, none⟩)), (6, .int .i64 (k : Int)), (7, .pointer (some ⟨b7, 0, none⟩)), (8, .pointer (some ⟨b8, 0, none⟩))] ∧ As' = .cl b8 [.slice sp 3 sc, .int .i64 3, .slice none 0 0] 46 :: .cl b7 [.slice sp 3 sc, .int .i64 3, .slice none 0 0] 46 :: .cl b5 [.slice sp 3 sc, .int .i64 3, .slice dp (gridD q a b c).length dc] 46 :: .ow (cI .i64) 3 (.slice dp (gridD q a b c).length dc) (gridD q a b c) :: .ow (cI .i64) 3 (.slice sp 3 sc) S :: As) ?_ ?_
  · refine Tri.dr (.take 0 (.take 1 (.take 2 (.take 3 (.take 4 (.take 5 (.all [(6, .all [(7, .all [(8, .all [(9, .done)])])]), (7, .all [(6, .all [(8, .all [(9, .done)])])])]))))))) ?_
    (repeat' (first | (show TL _ _ _ _ (_ :: _) _ _ _; first | refine TL.sa ?_ | (refine TL.na ?_; intro _)) | (first | refine Stp.h ?_ | refine Post.then_normal ?_ | refine Post.next ?_ | refine Post.block_other rfl ?_) | (show TT _ _ _ _ _ _ _ _ _; refine TT.sa ?_) | exact TTs.nil | refine TTs.cons ?_ ?_ | (show T1 _ _ _ _ _ _ _ _ _ _; first | refine T1.sa ?_ | (refine T1.na ?_; intro _)) | (show TC _ _ _ _ _ _ _ _ _ _; first | refine TC.goa ?_ | refine TC.fina ?_) | refine Tri.ca ?_))
    refine TT.take rfl rfl rfl (ExF.build (vs := [.slice sp 3 sc, .int .i64 3]) (l := [.slice sp 3 sc, .int .i64 3, .slice none 0 0]) rfl (fun w => by kernel_rfl)) ?_
    (repeat' (first | (show TL _ _ _ _ (_ :: _) _ _ _; first | refine TL.sa ?_ | (refine TL.na ?_; intro _)) | (first | refine Stp.h ?_ | refine Post.then_normal ?_ | refine Post.next ?_ | refine Post.block_other rfl ?_) | (show TT _ _ _ _ _ _ _ _ _; refine TT.sa ?_) | exact TTs.nil | refine TTs.cons ?_ ?_ | (show T1 _ _ _ _ _ _ _ _ _ _; first | refine T1.sa ?_ | (refine T1.na ?_; intro _)) | (show TC _ _ _ _ _ _ _ _ _ _; first | refine TC.goa ?_ | refine TC.fina ?_) | refine Tri.ca ?_))
    refine TT.take rfl rfl rfl (ExF.build (vs := [.slice sp 3 sc, .int .i64 3]) (l := [.slice sp 3 sc, .int .i64 3, .slice none 0 0]) rfl (fun w => by kernel_rfl)) ?_
    (repeat' (first | (show TL _ _ _ _ (_ :: _) _ _ _; first | refine TL.sa ?_ | (refine TL.na ?_; intro _)) | (first | refine Stp.h ?_ | refine Post.then_normal ?_ | refine Post.next ?_ | refine Post.block_other rfl ?_) | (show TT _ _ _ _ _ _ _ _ _; refine TT.sa ?_) | exact TTs.nil | refine TTs.cons ?_ ?_ | (show T1 _ _ _ _ _ _ _ _ _ _; first | refine T1.sa ?_ | (refine T1.na ?_; intro _)) | (show TC _ _ _ _ _ _ _ _ _ _; first | refine TC.goa ?_ | refine TC.fina ?_) | refine Tri.ca ?_))
    all_goals exact Post.cut _ _ ⟨_, _, rfl, rfl⟩ (by (exact Sub.au)) (by (exact Ents.au))
  rintro _ _ ⟨b7, b8, rfl, rfl⟩
  (repeat' (first | (show TL _ _ _ _ (_ :: _) _ _ _; first | refine TL.sa ?_ | (refine TL.na ?_; intro _)) | (first | refine Stp.h ?_ | refine Post.then_normal ?_ | refine Post.next ?_ | refine Post.block_other rfl ?_) | (show TT _ _ _ _ _ _ _ _ _; refine TT.sa ?_) | exact TTs.nil | refine TTs.cons ?_ ?_ | (show T1 _ _ _ _ _ _ _ _ _ _; first | refine T1.sa ?_ | (refine T1.na ?_; intro _)) | (show TC _ _ _ _ _ _ _ _ _ _; first | refine TC.goa ?_ | refine TC.fina ?_) | refine Tri.ca ?_))
  refine Tri.dr (.take 0 (.take 1 (.take 2 (.take 3 (.take 4 (.take 5 (.take 6 (.take 7 (.take 8 (.take 9 (.take 10 (.take 11 (.take 12 (.take 13 (.take 14 (.done)))))))))))))))) ?_
  (repeat' (first | (show TL _ _ _ _ (_ :: _) _ _ _; first | refine TL.sa ?_ | (refine TL.na ?_; intro _)) | (first | refine Stp.h ?_ | refine Post.then_normal ?_ | refine Post.next ?_ | refine Post.block_other rfl ?_) | (show TT _ _ _ _ _ _ _ _ _; refine TT.sa ?_) | exact TTs.nil | refine TTs.cons ?_ ?_ | (show T1 _ _ _ _ _ _ _ _ _ _; first | refine T1.sa ?_ | (refine T1.na ?_; intro _)) | (show TC _ _ _ _ _ _ _ _ _ _; first | refine TC.goa ?_ | refine TC.fina ?_) | refine Tri.ca ?_))
  have mab : (a : Int) * (b : Int) = ((a * b : Nat) : Int) := by push_cast; rfl
  have mabc : ((a * b : Nat) : Int) * (c : Int) = ((a * b * c : Nat) : Int) := by push_cast; rfl
  have mbc : (b : Int) * (c : Int) = ((b * c : Nat) : Int) := by push_cast; rfl
  have nab : a * b ≤ 20 := Nat.mul_le_mul a5 bb4
  have nbc : b * c ≤ 16 := Nat.mul_le_mul bb4 c4
  have nbc0 : 4 ≤ b * c := Nat.mul_le_mul bb2 c2
  rw [mab, wrap_of_IR (show IR .i64 ((a * b : Nat) : Int) from ⟨by omega, by omega⟩), mabc, wrap_of_IR (show IR .i64 ((a * b * c : Nat) : Int) from ⟨by omega, by omega⟩)]
  refine Tri.loop (ι := Nat × Value × Value) (fun s => s.1 ≤ a * b * c) (fun s => a * b * c - s.1)
    (fun s => [(5, .pointer (some ⟨b5, 0, none⟩)), (6, .int .i64 (k : Int)), (7, .pointer (some ⟨b7, 0, none⟩)), (8, .pointer (some ⟨b8, 0, none⟩)), (54, .int .i64 ((a * b * c : Nat) : Int)), (55, .int .i64 (s.1 : Int))])
    (fun s => .cl b8 [.slice sp 3 sc, .int .i64 3, s.2.1] 46 :: .cl b7 [.slice sp 3 sc, .int .i64 3, s.2.2] 46 :: .ow (cI .i64) 3 s.2.1 (genP (fun x => swapF (q.out x)) b c s.1) :: .ow (cI .i64) 3 s.2.2 (genP (fun x => q.out (mirV k a b c x)) b c s.1) :: .cl b5 [.slice sp 3 sc, .int .i64 3, .slice dp (gridD q a b c).length dc] 46 :: .ow (cI .i64) 3 (.slice dp (gridD q a b c).length dc) (gridD q a b c) :: .ow (cI .i64) 3 (.slice sp 3 sc) S :: As) (0, .slice none 0 0, .slice none 0 0) (Nat.zero_le _) (by (exact Sub.au)) (by
      show Ents _ (.cl b8 [.slice sp 3 sc, .int .i64 3, .slice none 0 0] 46 :: .cl b7 [.slice sp 3 sc, .int .i64 3, .slice none 0 0] 46 :: .ow (cI .i64) 3 (.slice none 0 0) [] :: .ow (cI .i64) 3 (.slice none 0 0) [] :: .cl b5 [.slice sp 3 sc, .int .i64 3, .slice dp (gridD q a b c).length dc] 46 :: .ow (cI .i64) 3 (.slice dp (gridD q a b c).length dc) (gridD q a b c) :: .ow (cI .i64) 3 (.slice sp 3 sc) S :: As)
      exact Ents.trans (Ents.trans (Ents.nilW (T := 3) (cI .i64)) (Ents.nilW (T := 3) (cI .i64))) (by (exact Ents.au))) ?_
  rintro ⟨i, v8, v7⟩ hi
  simp only at hi
  show Tri _ _ _ _ [(5, _), (6, _), (7, _), (8, _), (54, _), (55, .int .i64 (i : Int))] (.cl b8 [_, _, v8] _ :: .cl b7 [_, _, v7] _ :: .ow _ _ v8 (genP _ _ _ i) :: .ow _ _ v7 (genP _ _ _ i) :: _) _
  (repeat' (first | (show TL _ _ _ _ (_ :: _) _ _ _; first | refine TL.sa ?_ | (refine TL.na ?_; intro _)) | (first | refine Stp.h ?_ | refine Post.then_normal ?_ | refine Post.next ?_ | refine Post.block_other rfl ?_) | (show TT _ _ _ _ _ _ _ _ _; refine TT.sa ?_) | exact TTs.nil | refine TTs.cons ?_ ?_ | (show T1 _ _ _ _ _ _ _ _ _ _; first | refine T1.sa ?_ | (refine T1.na ?_; intro _)) | (show TC _ _ _ _ _ _ _ _ _ _; first | refine TC.goa ?_ | refine TC.fina ?_) | refine Tri.ca ?_))
  ((show Tri _ _ _ (.cond _ _ _) _ _ _; first | refine Tri.condP rfl (fun hc => ?_) (fun hc => ?_) | refine Tri.condN rfl (fun hc => ?_) (fun hc => ?_)))
  · obtain ⟨i1, j1, l1, hcell, hi1, hj1, hl1, hp⟩ := cell_in (a := a) (b := b) (c := c) (p := i) (by omega)
    have e2 : (i : Int) % (c : Int) = (l1 : Int) := by rw [hp]; have := (div_at (i := i1) hj1 hl1).2.2; omega
    have e1 : (i : Int) / (c : Int) % (b : Int) = (j1 : Int) := by have := (div_at (i := i1) hj1 hl1).2.1; rw [← hp] at this; rw [← this]; push_cast; rfl
    rw [← Int.tmod_eq_emod_of_nonneg (Int.ediv_nonneg (by omega) (by omega))] at e1
    have e0 : (i : Int) / ((b : Int) * (c : Int)) = (i1 : Int) := by
      have := (div_at (i := i1) hj1 hl1).1
      rw [← hp, Nat.div_div_eq_div_mul, Nat.mul_comm c b] at this
      rw [← this]; push_cast; rfl
    have X8s := genP_succ (o := fun x => swapF (q.out x)) (b := b) (c := c) (n := i)
    have X7s := genP_succ (o := fun x => q.out (mirV k a b c x)) (b := b) (c := c) (n := i)
    have X8l := genP_len (o := fun x => swapF (q.out x)) (b := b) (c := c) (n := i)
    have X7l := genP_len (o := fun x => q.out (mirV k a b c x)) (b := b) (c := c) (n := i)
    rw [hcell] at X8s X7s
    generalize genP (fun x => swapF (q.out x)) b c i = X8 at X8s X8l ⊢
    generalize genP (fun x => q.out (mirV k a b c x)) b c i = X7 at X7s X7l ⊢
    (repeat' (first | (show TL _ _ _ _ (_ :: _) _ _ _; first | refine TL.sa ?_ | (refine TL.na ?_; intro _)) | (first | refine Stp.h ?_ | refine Post.then_normal ?_ | refine Post.next ?_ | refine Post.block_other rfl ?_) | refine Tri.ca ?_))
    refine Tri.dr (.take 0 (.take 1 (.take 2 (.take 3 (.take 4 (.take 5 (.take 6 (.take 7 (.take 8 (.take 9 (.take 10 (.take 11 (.take 12 (.take 13 (.take 14 (.take 15 (.take 16 (.take 17 (.take 18 (.take 19 (.take 20 (.take 21 (.take 22 (.take 23 (.take 24 (.take 25 (.take 26 (.take 27 (.take 28 (.all [(29, .all [(30, .done)])])))))))))))))))))))))))))))))) ?_
    (repeat' (first | (show TL _ _ _ _ (_ :: _) _ _ _; first | refine TL.sa ?_ | (refine TL.na ?_; intro _)) | (first | refine Stp.h ?_ | refine Post.then_normal ?_ | refine Post.next ?_ | refine Post.block_other rfl ?_) | (show TT _ _ _ _ _ _ _ _ _; refine TT.sa ?_) | exact TTs.nil | refine TTs.cons ?_ ?_ | (show T1 _ _ _ _ _ _ _ _ _ _; first | refine T1.sa ?_ | (refine T1.na ?_; intro _)) | (show TC _ _ _ _ _ _ _ _ _ _; first | refine TC.goa ?_ | refine TC.fina ?_) | refine Tri.ca ?_))
    rw [e0, e1, e2]
    refine TL.callv rfl rfl rfl rfl (node_ok (q := q) (a := a) (b := b) (c := c) (i := i1) (j := j1) (k := l1) (S := S) hS.symm hz0 hi1 hj1 hl1) ?_
    rintro _ _ ⟨rfl, rfl⟩
    generalize q.out ⟨i1, j1, l1⟩ = y at X8s ⊢
    obtain ⟨y0, y1, y2⟩ := y
    rw [show cellsV (swapF (⟨y0, y1, y2⟩ : V3)) = [y0, y2, y1] from rfl] at X8s
    (repeat' (first | (show TL _ _ _ _ (_ :: _) _ _ _; first | refine TL.sa ?_ | (refine TL.na ?_; intro _)) | (first | refine Stp.h ?_ | refine Post.then_normal ?_ | refine Post.next ?_ | refine Post.block_other rfl ?_) | (show TT _ _ _ _ _ _ _ _ _; refine TT.sa ?_) | exact TTs.nil | refine TTs.cons ?_ ?_ | (show T1 _ _ _ _ _ _ _ _ _ _; first | refine T1.sa ?_ | (refine T1.na ?_; intro _)) | (show TC _ _ _ _ _ _ _ _ _ _; first | refine TC.goa ?_ | refine TC.fina ?_) | refine Tri.ca ?_))
    rename_i bx b12 w8
    refine TL.ents (Ents.clW (cI .i64) [y0, y2, y1] rfl (n := 3) (cap := 3) rfl rfl) ?_
    (repeat' (first | (show TL _ _ _ _ (_ :: _) _ _ _; first | refine TL.sa ?_ | (refine TL.na ?_; intro _)) | (first | refine Stp.h ?_ | refine Post.then_normal ?_ | refine Post.next ?_ | refine Post.block_other rfl ?_) | (show TT _ _ _ _ _ _ _ _ _; refine TT.sa ?_) | exact TTs.nil | refine TTs.cons ?_ ?_ | (show T1 _ _ _ _ _ _ _ _ _ _; first | refine T1.sa ?_ | (refine T1.na ?_; intro _)) | (show TC _ _ _ _ _ _ _ _ _ _; first | refine TC.goa ?_ | refine TC.fina ?_) | refine Tri.ca ?_))
    rename_i n8
    rcases (by omega : k = 0 ∨ k = 1 ∨ k = 2) with rfl | rfl | rfl
    · obtain ⟨m, hm⟩ : ∃ m : Nat, ((a - 1 : Nat) : Int) - (i1 : Int) = (m : Int) := ⟨a - 1 - i1, by omega⟩
      have hm2 : (a : Int) - 1 - (i1 : Int) = (m : Int) := by omega
      have emir : mirV 0 a b c ⟨(i1 : Int), (j1 : Int), (l1 : Int)⟩ = ⟨(m : Int), (j1 : Int), (l1 : Int)⟩ := by rw [← hm2]; rfl
      rw [emir] at X7s
      refine Tri.dr (.take 0 (.take 1 (.take 2 (.take 3 (.take 4 (.take 5 (.take 6 (.take 7 (.take 8 (.take 9 (.take 10 (.take 11 (.all [(12, .done)]))))))))))))) ?_
      (repeat' (first | (show TL _ _ _ _ (_ :: _) _ _ _; first | refine TL.sa ?_ | (refine TL.na ?_; intro _)) | (first | refine Stp.h ?_ | refine Post.then_normal ?_ | refine Post.next ?_ | refine Post.block_other rfl ?_) | (show TT _ _ _ _ _ _ _ _ _; refine TT.sa ?_) | exact TTs.nil | refine TTs.cons ?_ ?_ | (show T1 _ _ _ _ _ _ _ _ _ _; first | refine T1.sa ?_ | (refine T1.na ?_; intro _)) | (show TC _ _ _ _ _ _ _ _ _ _; first | refine TC.goa ?_ | refine TC.fina ?_) | refine Tri.ca ?_))
      rw [hm]
      (repeat' (first | (show TL _ _ _ _ (_ :: _) _ _ _; first | refine TL.sa ?_ | (refine TL.na ?_; intro _)) | (first | refine Stp.h ?_ | refine Post.then_normal ?_ | refine Post.next ?_ | refine Post.block_other rfl ?_) | (show TT _ _ _ _ _ _ _ _ _; refine TT.sa ?_) | exact TTs.nil | refine TTs.cons ?_ ?_ | (show T1 _ _ _ _ _ _ _ _ _ _; first | refine T1.sa ?_ | (refine T1.na ?_; intro _)) | (show TC _ _ _ _ _ _ _ _ _ _; first | refine TC.goa ?_ | refine TC.fina ?_) | refine Tri.ca ?_))
      refine TL.callv rfl rfl rfl rfl (node_ok (q := q) (a := a) (b := b) (c := c) (i := m) (j := j1) (k := l1) (S := S) hS.symm hz0 (by omega) (by omega) (by omega)) ?_
      rintro _ _ ⟨rfl, rfl⟩
      generalize q.out ⟨(m : Int), (j1 : Int), (l1 : Int)⟩ = z at X7s ⊢
      obtain ⟨z0, z1, z2⟩ := z
      rw [show cellsV (⟨z0, z1, z2⟩ : V3) = [z0, z1, z2] from rfl] at X7s
      (repeat' (first | (show TL _ _ _ _ (_ :: _) _ _ _; first | refine TL.sa ?_ | (refine TL.na ?_; intro _)) | (first | refine Stp.h ?_ | refine Post.then_normal ?_ | refine Post.next ?_ | refine Post.block_other rfl ?_) | (show TT _ _ _ _ _ _ _ _ _; refine TT.sa ?_) | exact TTs.nil | refine TTs.cons ?_ ?_ | (show T1 _ _ _ _ _ _ _ _ _ _; first | refine T1.sa ?_ | (refine T1.na ?_; intro _)) | (show TC _ _ _ _ _ _ _ _ _ _; first | refine TC.goa ?_ | refine TC.fina ?_) | refine Tri.ca ?_))
      rename_i w7
      refine TL.ents (Ents.clW (cI .i64) [z0, z1, z2] rfl (n := 3) (cap := 3) rfl rfl) ?_
      (repeat' (first | (show TL _ _ _ _ (_ :: _) _ _ _; first | refine TL.sa ?_ | (refine TL.na ?_; intro _)) | (first | refine Stp.h ?_ | refine Post.then_normal ?_ | refine Post.next ?_ | refine Post.block_other rfl ?_) | (show TT _ _ _ _ _ _ _ _ _; refine TT.sa ?_) | exact TTs.nil | refine TTs.cons ?_ ?_ | (show T1 _ _ _ _ _ _ _ _ _ _; first | refine T1.sa ?_ | (refine T1.na ?_; intro _)) | (show TC _ _ _ _ _ _ _ _ _ _; first | refine TC.goa ?_ | refine TC.fina ?_) | refine Tri.ca ?_))
      rename_i n7
      refine Post.round (i + 1, n8, n7) (by simp only; omega) (by simp only; omega) (by (exact Sub.au)) ?_
      simp only
      rw [X8s, X7s]
      (exact Ents.au)
    · obtain ⟨m, hm⟩ : ∃ m : Nat, ((b - 1 : Nat) : Int) - (j1 : Int) = (m : Int) := ⟨b - 1 - j1, by omega⟩
      have hm2 : (b : Int) - 1 - (j1 : Int) = (m : Int) := by omega
      have emir : mirV 1 a b c ⟨(i1 : Int), (j1 : Int), (l1 : Int)⟩ = ⟨(i1 : Int), (m : Int), (l1 : Int)⟩ := by rw [← hm2]; rfl
      rw [emir] at X7s
      refine Tri.dr (.take 0 (.take 1 (.take 2 (.take 3 (.take 4 (.take 5 (.take 6 (.take 7 (.take 8 (.take 9 (.take 10 (.take 11 (.all [(12, .done)]))))))))))))) ?_
      (repeat' (first | (show TL _ _ _ _ (_ :: _) _ _ _; first | refine TL.sa ?_ | (refine TL.na ?_; intro _)) | (first | refine Stp.h ?_ | refine Post.then_normal ?_ | refine Post.next ?_ | refine Post.block_other rfl ?_) | (show TT _ _ _ _ _ _ _ _ _; refine TT.sa ?_) | exact TTs.nil | refine TTs.cons ?_ ?_ | (show T1 _ _ _ _ _ _ _ _ _ _; first | refine T1.sa ?_ | (refine T1.na ?_; intro _)) | (show TC _ _ _ _ _ _ _ _ _ _; first | refine TC.goa ?_ | refine TC.fina ?_) | refine Tri.ca ?_))
      rw [hm]
      (repeat' (first | (show TL _ _ _ _ (_ :: _) _ _ _; first | refine TL.sa ?_ | (refine TL.na ?_; intro _)) | (first | refine Stp.h ?_ | refine Post.then_normal ?_ | refine Post.next ?_ | refine Post.block_other rfl ?_) | (show TT _ _ _ _ _ _ _ _ _; refine TT.sa ?_) | exact TTs.nil | refine TTs.cons ?_ ?_ | (show T1 _ _ _ _ _ _ _ _ _ _; first | refine T1.sa ?_ | (refine T1.na ?_; intro _)) | (show TC _ _ _ _ _ _ _ _ _ _; first | refine TC.goa ?_ | refine TC.fina ?_) | refine Tri.ca ?_))
      refine TL.callv rfl rfl rfl rfl (node_ok (q := q) (a := a) (b := b) (c := c) (i := i1) (j := m) (k := l1) (S := S) hS.symm hz0 (by omega) (by omega) (by omega)) ?_
      rintro _ _ ⟨rfl, rfl⟩
      generalize q.out ⟨(i1 : Int), (m : Int), (l1 : Int)⟩ = z at X7s ⊢
      obtain ⟨z0, z1, z2⟩ := z
      rw [show cellsV (⟨z0, z1, z2⟩ : V3) = [z0, z1, z2] from rfl] at X7s
      (repeat' (first | (show TL _ _ _ _ (_ :: _) _ _ _; first | refine TL.sa ?_ | (refine TL.na ?_; intro _)) | (first | refine Stp.h ?_ | refine Post.then_normal ?_ | refine Post.next ?_ | refine Post.block_other rfl ?_) | (show TT _ _ _ _ _ _ _ _ _; refine TT.sa ?_) | exact TTs.nil | refine TTs.cons ?_ ?_ | (show T1 _ _ _ _ _ _ _ _ _ _; first | refine T1.sa ?_ | (refine T1.na ?_; intro _)) | (show TC _ _ _ _ _ _ _ _ _ _; first | refine TC.goa ?_ | refine TC.fina ?_) | refine Tri.ca ?_))
      rename_i w7
      refine TL.ents (Ents.clW (cI .i64) [z0, z1, z2] rfl (n := 3) (cap := 3) rfl rfl) ?_
      (repeat' (first | (show TL _ _ _ _ (_ :: _) _ _ _; first | refine TL.sa ?_ | (refine TL.na ?_; intro _)) | (first | refine Stp.h ?_ | refine Post.then_normal ?_ | refine Post.next ?_ | refine Post.block_other rfl ?_) | (show TT _ _ _ _ _ _ _ _ _; refine TT.sa ?_) | exact TTs.nil | refine TTs.cons ?_ ?_ | (show T1 _ _ _ _ _ _ _ _ _ _; first | refine T1.sa ?_ | (refine T1.na ?_; intro _)) | (show TC _ _ _ _ _ _ _ _ _ _; first | refine TC.goa ?_ | refine TC.fina ?_) | refine Tri.ca ?_))
      rename_i n7
      refine Post.round (i + 1, n8, n7) (by simp only; omega) (by simp only; omega) (by (exact Sub.au)) ?_
      simp only
      rw [X8s, X7s]
      (exact Ents.au)
    · obtain ⟨m, hm⟩ : ∃ m : Nat, ((c - 1 : Nat) : Int) - (l1 : Int) = (m : Int) := ⟨c - 1 - l1, by omega⟩
      have hm2 : (c : Int) - 1 - (l1 : Int) = (m : Int) := by omega
      have emir : mirV 2 a b c ⟨(i1 : Int), (j1 : Int), (l1 : Int)⟩ = ⟨(i1 : Int), (j1 : Int), (m : Int)⟩ := by rw [← hm2]; rfl
      rw [emir] at X7s
      refine Tri.dr (.take 0 (.take 1 (.take 2 (.take 3 (.take 4 (.take 5 (.take 6 (.take 7 (.take 8 (.take 9 (.take 10 (.take 11 (.all [(12, .done)]))))))))))))) ?_
      (repeat' (first | (show TL _ _ _ _ (_ :: _) _ _ _; first | refine TL.sa ?_ | (refine TL.na ?_; intro _)) | (first | refine Stp.h ?_ | refine Post.then_normal ?_ | refine Post.next ?_ | refine Post.block_other rfl ?_) | (show TT _ _ _ _ _ _ _ _ _; refine TT.sa ?_) | exact TTs.nil | refine TTs.cons ?_ ?_ | (show T1 _ _ _ _ _ _ _ _ _ _; first | refine T1.sa ?_ | (refine T1.na ?_; intro _)) | (show TC _ _ _ _ _ _ _ _ _ _; first | refine TC.goa ?_ | refine TC.fina ?_) | refine Tri.ca ?_))
      rw [hm]
      (repeat' (first | (show TL _ _ _ _ (_ :: _) _ _ _; first | refine TL.sa ?_ | (refine TL.na ?_; intro _)) | (first | refine Stp.h ?_ | refine Post.then_normal ?_ | refine Post.next ?_ | refine Post.block_other rfl ?_) | (show TT _ _ _ _ _ _ _ _ _; refine TT.sa ?_) | exact TTs.nil | refine TTs.cons ?_ ?_ | (show T1 _ _ _ _ _ _ _ _ _ _; first | refine T1.sa ?_ | (refine T1.na ?_; intro _)) | (show TC _ _ _ _ _ _ _ _ _ _; first | refine TC.goa ?_ | refine TC.fina ?_) | refine Tri.ca ?_))
      refine TL.callv rfl rfl rfl rfl (node_ok (q := q) (a := a) (b := b) (c := c) (i := i1) (j := j1) (k := m) (S := S) hS.symm hz0 (by omega) (by omega) (by omega)) ?_
      rintro _ _ ⟨rfl, rfl⟩
      generalize q.out ⟨(i1 : Int), (j1 : Int), (m : Int)⟩ = z at X7s ⊢
      obtain ⟨z0, z1, z2⟩ := z
      rw [show cellsV (⟨z0, z1, z2⟩ : V3) = [z0, z1, z2] from rfl] at X7s
      (repeat' (first | (show TL _ _ _ _ (_ :: _) _ _ _; first | refine TL.sa ?_ | (refine TL.na ?_; intro _)) | (first | refine Stp.h ?_ | refine Post.then_normal ?_ | refine Post.next ?_ | refine Post.block_other rfl ?_) | (show TT _ _ _ _ _ _ _ _ _; refine TT.sa ?_) | exact TTs.nil | refine TTs.cons ?_ ?_ | (show T1 _ _ _ _ _ _ _ _ _ _; first | refine T1.sa ?_ | (refine T1.na ?_; intro _)) | (show TC _ _ _ _ _ _ _ _ _ _; first | refine TC.goa ?_ | refine TC.fina ?_) | refine Tri.ca ?_))
      rename_i w7
      refine TL.ents (Ents.clW (cI .i64) [z0, z1, z2] rfl (n := 3) (cap := 3) rfl rfl) ?_
      (repeat' (first | (show TL _ _ _ _ (_ :: _) _ _ _; first | refine TL.sa ?_ | (refine TL.na ?_; intro _)) | (first | refine Stp.h ?_ | refine Post.then_normal ?_ | refine Post.next ?_ | refine Post.block_other rfl ?_) | (show TT _ _ _ _ _ _ _ _ _; refine TT.sa ?_) | exact TTs.nil | refine TTs.cons ?_ ?_ | (show T1 _ _ _ _ _ _ _ _ _ _; first | refine T1.sa ?_ | (refine T1.na ?_; intro _)) | (show TC _ _ _ _ _ _ _ _ _ _; first | refine TC.goa ?_ | refine TC.fina ?_) | refine Tri.ca ?_))
      rename_i n7
      refine Post.round (i + 1, n8, n7) (by simp only; omega) (by simp only; omega) (by (exact Sub.au)) ?_
      simp only
      rw [X8s, X7s]
      (exact Ents.au)
  · obtain rfl : i = a * b * c := by omega
    have X8l := genP_len (o := fun x => swapF (q.out x)) (b := b) (c := c) (n := a * b * c)
    have X7l := genP_len (o := fun x => q.out (mirV k a b c x)) (b := b) (c := c) (n := a * b * c)
    generalize genP (fun x => swapF (q.out x)) b c (a * b * c) = X8 at X8l r3 ⊢
    generalize genP (fun x => q.out (mirV k a b c x)) b c (a * b * c) = X7 at X7l r2 ⊢
    have hSl : S.length ≤ 1000000000 := by omega
    refine Tri.rdSl (c := cI .i64) (xs := X8) v8 ?_
    rintro p8 c8 rfl
    refine Tri.rdSl (c := cI .i64) (xs := X7) v7 ?_
    rintro p7 c7 rfl
    (repeat' (first | (show TL _ _ _ _ (_ :: _) _ _ _; first | refine TL.sa ?_ | (refine TL.na ?_; intro _)) | (first | refine Stp.h ?_ | refine Post.then_normal ?_ | refine Post.next ?_ | refine Post.block_other rfl ?_) | refine Tri.ca ?_))
    refine TL.call rfl rfl rfl (shell_ok ht (S := S) (D := gridD q a b c) hSl (by omega)) ?_
    intro _ _ h
    obtain ⟨pv1, fv1, rfl, h1, h2, rfl⟩ := meshR_eq r1 h
    refine TL.rdSl (c := cV3) (xs := P1) pv1 ?_
    rintro pp1 pc1 rfl
    refine TL.rdSl (c := cV3) (xs := F1) fv1 ?_
    rintro fp1 fc1 rfl
    clear h
    (repeat' (first | (show TL _ _ _ _ (_ :: _) _ _ _; first | refine TL.sa ?_ | (refine TL.na ?_; intro _)) | (first | refine Stp.h ?_ | refine Post.then_normal ?_ | refine Post.next ?_ | refine Post.block_other rfl ?_) | refine Tri.ca ?_))
    rename_i b13
    refine TL.call rfl rfl rfl (shell_ok ht (S := S) (D := X7) hSl (by omega)) ?_
    intro _ _ h
    obtain ⟨pv2, fv2, rfl, h1, h2, rfl⟩ := meshR_eq r2 h
    refine TL.rdSl (c := cV3) (xs := P2) pv2 ?_
    rintro pp2 pc2 rfl
    refine TL.rdSl (c := cV3) (xs := F2) fv2 ?_
    rintro fp2 fc2 rfl
    clear h
    (repeat' (first | (show TL _ _ _ _ (_ :: _) _ _ _; first | refine TL.sa ?_ | (refine TL.na ?_; intro _)) | (first | refine Stp.h ?_ | refine Post.then_normal ?_ | refine Post.next ?_ | refine Post.block_other rfl ?_) | refine Tri.ca ?_))
    rename_i b15
    refine TL.call rfl rfl rfl (shell_ok ht (S := S) (D := X8) hSl (by omega)) ?_
    intro _ _ h
    obtain ⟨pv3, fv3, rfl, h1, h2, rfl⟩ := meshR_eq r3 h
    clear h
    generalize P1.map swapF = P3 at r3 G3 hv h1 h2 ⊢
    refine TL.rdSl (c := cV3) (xs := P3) pv3 ?_
    rintro pp3 pc3 rfl
    refine TL.rdSl (c := cV3) (xs := F3) fv3 ?_
    rintro fp3 fc3 rfl
    have hvol : ∀ (E : List Ent) (pv fv : Value) (P F : List V3), Sx.Good P F → ∀ [RdIn E fv V3 cV3 F] [RdIn E pv V3 cV3 P], CallsS Tryz.prog w0 19 [.agg #[pv, fv]] E fun v Bs => v = .tuple #[.string ⟨(textI (volM P F)).toArray⟩, .int .i64 0] ∧ Bs = E := by
      intro E pv fv P F hg _ _
      have := volume6_ok (w0 := w0) ht (As := E) (pv := pv) (fv := fv) (pts := P) (fcs := F)
      rw [if_pos (okM_good.2 hg)] at this
      exact this
    (repeat' (first | (show TL _ _ _ _ (_ :: _) _ _ _; first | refine TL.sa ?_ | (refine TL.na ?_; intro _)) | (first | refine Stp.h ?_ | refine Post.then_normal ?_ | refine Post.next ?_ | refine Post.block_other rfl ?_) | refine Tri.ca ?_))
    refine TL.call rfl rfl rfl (hvol _ _ _ P1 F1 G1) ?_
    rintro _ _ ⟨rfl, rfl⟩
    (repeat' (first | (show TL _ _ _ _ (_ :: _) _ _ _; first | refine TL.sa ?_ | (refine TL.na ?_; intro _)) | (first | refine Stp.h ?_ | refine Post.then_normal ?_ | refine Post.next ?_ | refine Post.block_other rfl ?_) | refine Tri.ca ?_))
    refine TL.call rfl rfl rfl (hvol _ _ _ P3 F3 G3) ?_
    rintro _ _ ⟨rfl, rfl⟩
    rw [hv]
    have hP12 : P1.length = P2.length := hperm.length_eq.symm
    (repeat' (first | (show TL _ _ _ _ (_ :: _) _ _ _; first | refine TL.sa ?_ | (refine TL.na ?_; intro _)) | (first | refine Stp.h ?_ | refine Post.then_normal ?_ | refine Post.next ?_ | refine Post.block_other rfl ?_) | refine Tri.ca ?_))
    rw [show (!decide (textI (volM P1 F1) = textI (volM P1 F1))) = false by simp]
    (repeat' (first | (show TL _ _ _ _ (_ :: _) _ _ _; first | refine TL.sa ?_ | (refine TL.na ?_; intro _)) | (first | refine Stp.h ?_ | refine Post.then_normal ?_ | refine Post.next ?_ | refine Post.block_other rfl ?_) | refine Tri.ca ?_))
    rw [show (!decide ((P1.length : Int) = (P2.length : Int))) = false by rw [hP12]; simp]
    (repeat' (first | (show TL _ _ _ _ (_ :: _) _ _ _; first | refine TL.sa ?_ | (refine TL.na ?_; intro _)) | (first | refine Stp.h ?_ | refine Post.then_normal ?_ | refine Post.next ?_ | refine Post.block_other rfl ?_) | refine Tri.ca ?_))
    rw [show (!decide ((F1.length : Int) = (F2.length : Int))) = false by rw [hFl]; simp]
    (repeat' (first | (show TL _ _ _ _ (_ :: _) _ _ _; first | refine TL.sa ?_ | (refine TL.na ?_; intro _)) | (first | refine Stp.h ?_ | refine Post.then_normal ?_ | refine Post.next ?_ | refine Post.block_other rfl ?_) | refine Tri.ca ?_))
    refine TL.rb rfl rfl (ExR.makeMap V3.val cIv) ?_
    intro bm
    (repeat' (first | (show TL _ _ _ _ (_ :: _) _ _ _; first | refine TL.sa ?_ | (refine TL.na ?_; intro _)) | (first | refine Stp.h ?_ | refine Post.then_normal ?_ | refine Post.next ?_ | refine Post.block_other rfl ?_) | refine Tri.ca ?_))
    refine Tri.loop (ι := Nat) (fun n => n ≤ P1.length) (fun n => P1.length - n) (fun n => [(13, .pointer (some ⟨b13, 0, none⟩)), (15, .pointer (some ⟨b15, 0, none⟩)), (23, .map (some bm)), (197, .int .i64 (P1.length : Int)), (198, .int .i64 (n : Int))])
      (fun n => .ob bm (mapO V3.val cIv (seenM P1 P2 n)) :: .cl b15 [.slice pp2 P2.length pc2, .slice fp2 F2.length fc2] 36 :: .ow cV3 27 (.slice pp2 P2.length pc2) P2 :: .cl b13 [.slice pp1 P1.length pc1, .slice fp1 F1.length fc1] 36 :: .ow cV3 27 (.slice pp1 P1.length pc1) P1 :: As) 0 (Nat.zero_le _) (by (exact Sub.au)) (by
      show Ents _ (.ob bm (mapO V3.val cIv []) :: .cl b15 [.slice pp2 P2.length pc2, .slice fp2 F2.length fc2] 36 :: .ow cV3 27 (.slice pp2 P2.length pc2) P2 :: .cl b13 [.slice pp1 P1.length pc1, .slice fp1 F1.length fc1] 36 :: .ow cV3 27 (.slice pp1 P1.length pc1) P1 :: As); (exact Ents.au)) ?_
    intro n hn
    (repeat' (first | (show TL _ _ _ _ (_ :: _) _ _ _; first | refine TL.sa ?_ | (refine TL.na ?_; intro _)) | (first | refine Stp.h ?_ | refine Post.then_normal ?_ | refine Post.next ?_ | refine Post.block_other rfl ?_) | refine Tri.ca ?_))
    ((show Tri _ _ _ (.cond _ _ _) _ _ _; first | refine Tri.condP rfl (fun hc => ?_) (fun hc => ?_) | refine Tri.condN rfl (fun hc => ?_) (fun hc => ?_)))
    · obtain ⟨x, hx⟩ : ∃ x, P1[n]? = some x := ⟨_, List.getElem?_eq_getElem (by omega)⟩
      obtain ⟨y, hy⟩ : ∃ y, P2[n]? = some y := ⟨_, List.getElem?_eq_getElem (by omega)⟩
      have ex : ptAt P1 n = x := by unfold ptAt; rw [Int.toNat_natCast, hx]; rfl
      have ey : ptAt P2 n = y := by unfold ptAt; rw [Int.toNat_natCast, hy]; rfl
      have sx := seen_get (A := P1) (B := P2) (p := x) hn (by omega)
      have cx1 := cntP_in (p := x) (A := P1) (n := n)
      have cx2 := cntP_in (p := x) (A := P2) (n := n)
      have sy : (mGet (incM (seenM P1 P2 n) x 1) y).getD 0 = (mGet (seenM P1 P2 n) y).getD 0 + (if x = y then 1 else 0) := by
        unfold incM
        rw [mGet_set]
        split
        · rename_i h; subst h; rfl
        · omega
      have sy2 := seen_get (A := P1) (B := P2) (p := y) hn (by omega)
      have cy1 := cntP_in (p := y) (A := P1) (n := n)
      have cy2 := cntP_in (p := y) (A := P2) (n := n)
      have sy3 : -301 ≤ (mGet (incM (seenM P1 P2 n) x 1) y).getD 0 ∧ (mGet (incM (seenM P1 P2 n) x 1) y).getD 0 ≤ 301 := by
        rw [sy, sy2]; split <;> omega
      have hs : seenM P1 P2 (n + 1) = incM (incM (seenM P1 P2 n) x 1) y (-1) := by rw [← ex, ← ey]; rfl
      generalize hM : seenM P1 P2 n = M at sx sy sy2 sy3 hs ⊢
      have sx3 : -301 ≤ (mGet M x).getD 0 ∧ (mGet M x).getD 0 ≤ 301 := by omega
      clear sx sy sy2 cx1 cx2 cy1 cy2
      have m1 : mSet M x ((mGet M x).getD 0 + 1) = incM M x 1 := rfl
      generalize hM1 : incM M x 1 = M1 at sy3 hs m1
      have m2 : mSet M1 y ((mGet M1 y).getD 0 - 1) = incM M1 y (-1) := rfl
      (repeat' (first | (show TL _ _ _ _ (_ :: _) _ _ _; first | refine TL.sa ?_ | (refine TL.na ?_; intro _)) | (first | refine Stp.h ?_ | refine Post.then_normal ?_ | refine Post.next ?_ | refine Post.block_other rfl ?_) | refine Tri.ca ?_))
      refine Tri.mid (fun e' As' => e' = [(13, .pointer (some ⟨b13, 0, none⟩)), (15, .pointer (some ⟨b15, 0, none⟩)), (23, .map (some bm)), (24, .int .i64 (n : Int)), (197, .int .i64 (P1.length : Int)), (198, .int .i64 (n : Int))] ∧ As' = .ob bm (mapO V3.val cIv M1) :: .cl b15 [.slice pp2 P2.length pc2, .slice fp2 F2.length fc2] 36 :: .ow cV3 27 (.slice pp2 P2.length pc2) P2 :: .cl b13 [.slice pp1 P1.length pc1, .slice fp1 F1.length fc1] 36 :: .ow cV3 27 (.slice pp1 P1.length pc1) P1 :: As) ?_ ?_
      · refine Tri.dw [.cl b13 [.slice pp1 P1.length pc1, .slice fp1 F1.length fc1] 36, .ow cV3 27 (.slice pp1 P1.length pc1) P1] [] (.take 0 (.take 1 (.take 2 (.take 3 (.take 4 (.take 5 (.all [(6, .take 7 (.all [(8, .take 9 (.all [(10, .done)]))])), (8, .take 9 (.all [(6, .take 7 (.all [(10, .done)]))]))]))))))) ?_
        (repeat' (first | (show TL _ _ _ _ (_ :: _) _ _ _; first | refine TL.sa ?_ | (refine TL.na ?_; intro _)) | (first | refine Stp.h ?_ | refine Post.then_normal ?_ | refine Post.next ?_ | refine Post.block_other rfl ?_) | (show TT _ _ _ _ _ _ _ _ _; refine TT.sa ?_) | exact TTs.nil | refine TTs.cons ?_ ?_ | (show T1 _ _ _ _ _ _ _ _ _ _; first | refine T1.sa ?_ | (refine T1.na ?_; intro _)) | (show TC _ _ _ _ _ _ _ _ _ _; first | refine TC.goa ?_ | refine TC.fina ?_) | refine Tri.ca ?_))
        all_goals
          rw [show (⟨x.x, x.y, x.z⟩ : V3) = x from rfl]
          first | rw [look_touch] | rw [look_iv]
          generalize (mGet M x).getD 0 = u at sx3 m1 ⊢
          (repeat' (first | (show TL _ _ _ _ (_ :: _) _ _ _; first | refine TL.sa ?_ | (refine TL.na ?_; intro _)) | (first | refine Stp.h ?_ | refine Post.then_normal ?_ | refine Post.next ?_ | refine Post.block_other rfl ?_) | (show TT _ _ _ _ _ _ _ _ _; refine TT.sa ?_) | exact TTs.nil | refine TTs.cons ?_ ?_ | (show T1 _ _ _ _ _ _ _ _ _ _; first | refine T1.sa ?_ | (refine T1.na ?_; intro _)) | (show TC _ _ _ _ _ _ _ _ _ _; first | refine TC.goa ?_ | refine TC.fina ?_) | refine Tri.ca ?_))
        all_goals
          try rw [show (⟨x.x, x.y, x.z⟩ : V3) = x from rfl]
          rw [m1]
          exact Post.cut _ _ ⟨rfl, rfl⟩ (by (exact Sub.au)) (by (exact Ents.au))
      rintro _ _ ⟨rfl, rfl⟩
      (repeat' (first | (show TL _ _ _ _ (_ :: _) _ _ _; first | refine TL.sa ?_ | (refine TL.na ?_; intro _)) | (first | refine Stp.h ?_ | refine Post.then_normal ?_ | refine Post.next ?_ | refine Post.block_other rfl ?_) | (show TT _ _ _ _ _ _ _ _ _; refine TT.sa ?_) | exact TTs.nil | refine TTs.cons ?_ ?_ | (show T1 _ _ _ _ _ _ _ _ _ _; first | refine T1.sa ?_ | (refine T1.na ?_; intro _)) | (show TC _ _ _ _ _ _ _ _ _ _; first | refine TC.goa ?_ | refine TC.fina ?_) | refine Tri.ca ?_))
      refine Tri.dw [.cl b15 [.slice pp2 P2.length pc2, .slice fp2 F2.length fc2] 36, .ow cV3 27 (.slice pp2 P2.length pc2) P2] [] (.take 0 (.take 1 (.take 2 (.take 3 (.take 4 (.take 5 (.all [(6, .take 7 (.all [(8, .take 9 (.all [(10, .done)]))])), (8, .take 9 (.all [(6, .take 7 (.all [(10, .done)]))]))]))))))) ?_
      (repeat' (first | (show TL _ _ _ _ (_ :: _) _ _ _; first | refine TL.sa ?_ | (refine TL.na ?_; intro _)) | (first | refine Stp.h ?_ | refine Post.then_normal ?_ | refine Post.next ?_ | refine Post.block_other rfl ?_) | (show TT _ _ _ _ _ _ _ _ _; refine TT.sa ?_) | exact TTs.nil | refine TTs.cons ?_ ?_ | (show T1 _ _ _ _ _ _ _ _ _ _; first | refine T1.sa ?_ | (refine T1.na ?_; intro _)) | (show TC _ _ _ _ _ _ _ _ _ _; first | refine TC.goa ?_ | refine TC.fina ?_) | refine Tri.ca ?_))
      all_goals
        rw [show (⟨y.x, y.y, y.z⟩ : V3) = y from rfl]
        first | rw [look_touch] | rw [look_iv]
        generalize (mGet M1 y).getD 0 = u at sy3 m2 ⊢
        (repeat' (first | (show TL _ _ _ _ (_ :: _) _ _ _; first | refine TL.sa ?_ | (refine TL.na ?_; intro _)) | (first | refine Stp.h ?_ | refine Post.then_normal ?_ | refine Post.next ?_ | refine Post.block_other rfl ?_) | (show TT _ _ _ _ _ _ _ _ _; refine TT.sa ?_) | exact TTs.nil | refine TTs.cons ?_ ?_ | (show T1 _ _ _ _ _ _ _ _ _ _; first | refine T1.sa ?_ | (refine T1.na ?_; intro _)) | (show TC _ _ _ _ _ _ _ _ _ _; first | refine TC.goa ?_ | refine TC.fina ?_) | refine Tri.ca ?_))
      all_goals
        try rw [show (⟨y.x, y.y, y.z⟩ : V3) = y from rfl]
        rw [m2, ← hs]
        exact Post.round (n + 1) (by omega) (by omega) (by (exact Sub.au)) (by (exact Ents.au))
    · obtain rfl : n = P1.length := by omega
      have hall : ∀ {j : Nat} {p : V3} {n : Int}, (seenM P1 P2 P1.length)[j]? = some (p, n) → n = 0 := fun h => seen_all hperm h
      generalize seenM P1 P2 P1.length = K at hall ⊢
      (repeat' (first | (show TL _ _ _ _ (_ :: _) _ _ _; first | refine TL.sa ?_ | (refine TL.na ?_; intro _)) | (first | refine Stp.h ?_ | refine Post.then_normal ?_ | refine Post.next ?_ | refine Post.block_other rfl ?_) | (show TT _ _ _ _ _ _ _ _ _; refine TT.sa ?_) | exact TTs.nil | refine TTs.cons ?_ ?_ | (show T1 _ _ _ _ _ _ _ _ _ _; first | refine T1.sa ?_ | (refine T1.na ?_; intro _)) | (show TC _ _ _ _ _ _ _ _ _ _; first | refine TC.goa ?_ | refine TC.fina ?_) | refine Tri.ca ?_))
      refine TL.rb rfl rfl (ExR.rangeMap (ck := V3.val) (cv := cIv) rfl) ?_
      intro br
      (repeat' (first | (show TL _ _ _ _ (_ :: _) _ _ _; first | refine TL.sa ?_ | (refine TL.na ?_; intro _)) | (first | refine Stp.h ?_ | refine Post.then_normal ?_ | refine Post.next ?_ | refine Post.block_other rfl ?_) | (show TT _ _ _ _ _ _ _ _ _; refine TT.sa ?_) | exact TTs.nil | refine TTs.cons ?_ ?_ | (show T1 _ _ _ _ _ _ _ _ _ _; first | refine T1.sa ?_ | (refine T1.na ?_; intro _)) | (show TC _ _ _ _ _ _ _ _ _ _; first | refine TC.goa ?_ | refine TC.fina ?_) | refine Tri.ca ?_))
      refine Tri.loop (ι := List Nat) (fun _ => True) (fun S => toCome K.length S) (fun _ => [(223, .pointer (some ⟨br, 0, none⟩))])
        (fun S => .ob br (iterO bm K.length S) :: .ob bm (mapO V3.val cIv K) :: As) [] trivial (by (exact Sub.au)) (by (exact Ents.au)) ?_
      intro S' _
      (repeat' (first | (show TL _ _ _ _ (_ :: _) _ _ _; first | refine TL.sa ?_ | (refine TL.na ?_; intro _)) | (first | refine Stp.h ?_ | refine Post.then_normal ?_ | refine Post.next ?_ | refine Post.block_other rfl ?_) | (show TT _ _ _ _ _ _ _ _ _; refine TT.sa ?_) | exact TTs.nil | refine TTs.cons ?_ ?_ | (show T1 _ _ _ _ _ _ _ _ _ _; first | refine T1.sa ?_ | (refine T1.na ?_; intro _)) | (show TC _ _ _ _ _ _ _ _ _ _; first | refine TC.goa ?_ | refine TC.fina ?_) | refine Tri.ca ?_))
      refine TL.rr rfl rfl (ExR.nextMap (ck := V3.val) (cv := cIv) (l := K) rfl rfl) ?_
      rintro _ _ (⟨rfl, rfl⟩ | ⟨i, u, n, h1, h2, rfl, rfl⟩)
      · (repeat' (first | (show TL _ _ _ _ (_ :: _) _ _ _; first | refine TL.sa ?_ | (refine TL.na ?_; intro _)) | (first | refine Stp.h ?_ | refine Post.then_normal ?_ | refine Post.next ?_ | refine Post.block_other rfl ?_) | (show TT _ _ _ _ _ _ _ _ _; refine TT.sa ?_) | exact TTs.nil | refine TTs.cons ?_ ?_ | (show T1 _ _ _ _ _ _ _ _ _ _; first | refine T1.sa ?_ | (refine T1.na ?_; intro _)) | (show TC _ _ _ _ _ _ _ _ _ _; first | refine TC.goa ?_ | refine TC.fina ?_) | refine Tri.ca ?_))
        (refine Post.ra ?_)
        exact ⟨[], rfl, Ents.of_cov inferInstance⟩
      · have hn0 := hall h1
        subst hn0
        (repeat' (first | (show TL _ _ _ _ (_ :: _) _ _ _; first | refine TL.sa ?_ | (refine TL.na ?_; intro _)) | (first | refine Stp.h ?_ | refine Post.then_normal ?_ | refine Post.next ?_ | refine Post.block_other rfl ?_) | refine Tri.ca ?_))
        refine TL.f rfl rfl (ExF.entryMap rfl rfl h1) ?_
        (repeat' (first | (show TL _ _ _ _ (_ :: _) _ _ _; first | refine TL.sa ?_ | (refine TL.na ?_; intro _)) | (first | refine Stp.h ?_ | refine Post.then_normal ?_ | refine Post.next ?_ | refine Post.block_other rfl ?_) | refine Tri.ca ?_))
        exact Post.round (S' ++ [i]) trivial (toCome_lt (List.getElem?_eq_some_iff.1 h1).1 h2) (by (exact Sub.au)) (by (exact Ents.au))
end Go.Proofs.YtjpghlljcibcjaaGreatDoor
