/- Shells, plain: the examples of ShellKnown. -/
import Derived.Test.YtjpghlljcibcjaaGreatDoorLs0
namespace Go.Sx
open Go
def leftD : Nat → List Int
  | 0 => cubeD
  | k + 1 => (leftD k).set (1 + 3 * k) (65535 - ((leftD k)[1 + 3 * k]?).getD 0)
def fiveD : Nat → List Int
  | 0 => cubeD
  | k + 1 => (fiveD k).set (3 * k) 5
theorem leftD_len : ∀ k, (leftD k).length = 24
  | 0 => rfl
  | k + 1 => by rw [leftD, List.length_set, leftD_len k]
theorem fiveD_len : ∀ k, (fiveD k).length = 24
  | 0 => rfl
  | k + 1 => by rw [fiveD, List.length_set, fiveD_len k]
theorem leftD_in : ∀ k, k < 9 → ∀ y ∈ leftD k, 0 ≤ y ∧ y ≤ 65535 := by decide +kernel
theorem leftD_succ {k : Nat} {y : Int} (h : (leftD k)[1 + 3 * k]? = some y) : leftD (k + 1) = (leftD k).set (1 + 3 * k) (65535 - y) := by
  rw [leftD, h]; rfl
def leftPts : List V3 := shellP (leftD 8) 2 2 2
def leftFcs : List V3 := (shellF 2 2 2).map swapF
theorem left_shell : shellR [2, 2, 2] 3 (leftD 8) = (0, leftPts, leftFcs) := by decide +kernel
theorem left_okM : okM leftPts leftFcs := by decide +kernel
theorem left_vol : volM leftPts leftFcs = 39321600000000000 := by decide +kernel
theorem left_f : leftFcs.length = 12 ∧ leftFcs[0]? = some ⟨0, 2, 3⟩ := by decide +kernel
theorem nodes_234 : nodesR [2, 3, 4] = (nodesF 2 3 4, 0) := by decide +kernel
theorem nodes_234s : (nodesF 2 3 4).length = 24 := by decide +kernel
theorem nodes_888 : nodesR [8, 8, 8] = (nodesF 8 8 8, 0) := by decide +kernel
theorem nodes_888s : (nodesF 8 8 8).length = 296 := by decide +kernel
theorem nodes_988 : nodesR [9, 8, 8] = ([], 3) := by decide +kernel
theorem nodes_2210 : nodesR [2, 2, 10] = ([], 2) := by decide +kernel
theorem nodes_221 : nodesR [2, 2, 1] = ([], 2) := by decide +kernel
theorem nodes_9999 : nodesR [9, 9, 9, 9] = ([], 2) := by decide +kernel
theorem color_i : colorR [0, 0, 65536] = (⟨0, 0, 0⟩, 2) := by decide +kernel
theorem color_j : colorR [0, -1, 0] = (⟨0, 0, 0⟩, 2) := by decide +kernel
theorem color_k : colorR [] = (⟨0, 0, 0⟩, 2) := by decide +kernel
theorem color_low : colorR [327, 0, 0] = (⟨499, -128000, -128000⟩, 0) := by decide +kernel
theorem shell_l : shellR [] 0 [] = (100, [], []) := by decide +kernel
theorem shell_n : shellR [2, 2, 2] 2 (List.replicate 16 0) = (2, [], []) := by decide +kernel
theorem shell_o : shellR [9, 9, 9] 3 (List.replicate 2187 0) = (3, [], []) := by decide +kernel
theorem shell_p : shellR [2, 2, 2] 3 (fiveD 8) = (5, [], []) := by decide +kernel
end Go.Sx
