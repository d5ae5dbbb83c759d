/- Meshes, plain: the examples of the chapter. -/
import Derived.Test.YtolchkdndnjhbaaDoorMp6
namespace Go.Sx
open Go
def tetP : List V3 := [⟨0, 0, 0⟩, ⟨1000, 0, 0⟩, ⟨0, 1000, 0⟩, ⟨0, 0, 1000⟩]
def tetF : List V3 := [⟨0, 2, 1⟩, ⟨0, 1, 3⟩, ⟨0, 3, 2⟩, ⟨1, 2, 3⟩]
theorem vol_tet (a b c d : V3) : volM [a, b, c, d] tetF = (b.sub a).dot ((c.sub a).cross (d.sub a)) := by
  simp [volM, tetF, faceV, ptAt, V3.dot, V3.cross, V3.sub]
  grind
theorem tet_comb : twiceF tetF = none ∧ openF tetF (ownF tetF) = none ∧ spareF 4 tetF = none ∧ apartF (fun u => (mGet (ownF tetF) u).getD 0) tetF = none ∧ wrongF 4 tetF = none := by decide
/-- four points that are not too far out, with the faces of a tetrahedron -/
theorem flaw_tet {pts : List V3} (hl : pts.length = 4) (hf : ∀ p ∈ pts, isFar p = false) : flawM pts tetF = match flatF pts tetF with
    | some i => (4, i)
    | none => (0, 0) := by
  obtain ⟨h1, h2, h3, h4, h5⟩ := tet_comb
  have h0 : farF pts = none := List.findIdx?_eq_none_iff.2 hf
  have hl2 : tetF.length = 4 := rfl
  unfold flawM
  rw [if_neg (by omega), if_neg (by omega), h0, hl, h5, h1, h2, h3, h4]
  cases flatF pts tetF <;> rfl
theorem tet_ok : flawM tetP tetF = (0, 0) := by decide
theorem tet_less : flawM tetP (tetF.take 3) = (1, 1) := by decide
theorem tet_turned : flawM tetP (tetF.set 3 ⟨1, 3, 2⟩) = (5, 3) := by decide
theorem tet_flat : flawM (tetP.set 3 ⟨0, 500, 0⟩) tetF = (4, 2) := by decide
theorem tet_twice : flawM tetP (tetF.set 2 ⟨3, 3, 2⟩) = (3, 2) := by decide
theorem tet_vol : volM tetP tetF = 1000000000 := by decide
theorem tet_volT : volM tetP (tetF.map swapF) = -1000000000 := by decide
theorem tet_okT : okM tetP (tetF.map swapF) := by decide
theorem tet_text : textI 1000000000 = [49, 48, 48, 48, 48, 48, 48, 48, 48, 48] := by
  simp [textI, Lib.itoa, Lib.decDigits]
theorem tet_textT : textI (-1000000000) = [45, 49, 48, 48, 48, 48, 48, 48, 48, 48, 48] := by
  simp [textI, Lib.itoa, Lib.decDigits]
theorem tet_euler : eulerM tetP tetF = (6, 2, 0) := by decide
theorem tet_box : boxM tetP tetF = (⟨0, 0, 0⟩, ⟨1000, 1000, 1000⟩, 0) := by decide
theorem tet_moved : movedM tetP tetF ⟨199000, 0, 0⟩ = (0, tetP.map (·.add ⟨199000, 0, 0⟩), tetF) := by decide
theorem tet_movedF : movedM tetP tetF ⟨199001, 0, 0⟩ = (6, [], []) := by decide
theorem tet_turnedM : turnedM tetP tetF = (0, tetP, tetF.map swapF) := by decide
end Go.Sx
