/- Walks: shells: the drafted grid. Shells, plain: the shells of drafted grids. Walks: shells: a node's outputs. -/
import Derived.Test.YtjpghlljcibcjaaGreatDoorSh1
import Derived.Test.YtjpghlljcibcjaaGreatDoorSxB
import Derived.Test.YtjpghlljcibcjaaGreatDoorSw3
import Derived.Test.YtjpghlljcibcjaaGreatDoorSw7
namespace Go.Sx
open Go
structure D37A where
  sz : Nat
  tu : Nat
  u0 : Nat
  u1 : Nat
  u2 : Nat
  v0 : Nat
  v1 : Nat
  v2 : Nat
def D37A.ok (d : D37A) : Prop := d.sz < 256 ∧ d.tu < 256 ∧ d.u0 < 65536 ∧ d.u1 < 65536 ∧ d.u2 < 65536 ∧ d.v0 < 256 ∧ d.v1 < 256 ∧ d.v2 < 256
def D37A.cells (d : D37A) : List Value := [.int .u8 (d.sz : Int), .int .u8 (d.tu : Int), .int .u16 (d.u0 : Int), .int .u16 (d.u1 : Int), .int .u16 (d.u2 : Int), .int .u8 (d.v0 : Int), .int .u8 (d.v1 : Int), .int .u8 (d.v2 : Int)]
def D37A.d (d : D37A) : D37 := ⟨d.tu % 6, 1000 + d.u0 % 9000, 1000 + d.u1 % 9000, 1000 + d.u2 % 9000, d.v0, d.v1, d.v2⟩
def D37A.a (d : D37A) : Nat := 2 + d.sz % 4
def D37A.b (d : D37A) : Nat := 2 + d.sz / 4 % 3
def D37A.c (d : D37A) : Nat := 2 + d.sz / 12 % 3
theorem D37A.dok {d : D37A} (h : d.ok) : d.d.ok := by
  obtain ⟨_, _, _, _, _, h5, h6, h7⟩ := h
  unfold D37.ok D37A.d
  dsimp only
  omega
theorem D37A.szOk (d : D37A) : Sz d.a d.b d.c := by
  constructor <;> simp only [D37A.a, D37A.b, D37A.c] <;> omega
def nodeD (d : D37) (x : V3) : List Int := [(d.out x).x, (d.out x).y, (d.out x).z]
def gridP (d : D37) (b c n : Nat) : List Int := (List.range n).flatMap fun p => nodeD d (cellN b c p)
def gridD (d : D37) (a b c : Nat) : List Int := gridP d b c (a * b * c)
theorem gridP_len {d : D37} {b c n : Nat} : (gridP d b c n).length = 3 * n := by
  induction n with
  | zero => rfl
  | succ n ih =>
    unfold gridP at ih ⊢
    rw [List.range_succ, List.flatMap_append, List.length_append, ih]
    simp [nodeD]; omega
theorem gridP_succ {d : D37} {b c n : Nat} : gridP d b c (n + 1) = gridP d b c n ++ nodeD d (cellN b c n) := by
  unfold gridP
  rw [List.range_succ, List.flatMap_append]
  simp
end Go.Sx
namespace Go.Proofs.YtjpghlljcibcjaaGreatDoor
open Go Go.Sx
variable {w0 : World} {As : List Ent}
def GridR (As : List Ent) (a b c : Nat) (D : List Int) (u : Value) (Bs : List Ent) : Prop := ∃ sv dv, u = .agg #[sv, .int .i64 3, dv] ∧ Bs = .ow (cI .i64) 3 dv D :: .ow (cI .i64) 3 sv [(a : Int), (b : Int), (c : Int)] :: As
set_option maxRecDepth 100000 in
set_option maxHeartbeats 8000000 in
theorem grid37_ok (d : D37A) (hd : d.ok) : CallsS Tryz.prog w0 14 [.agg d.cells.toArray] As (GridR As d.a d.b d.c (gridD d.d d.a d.b d.c)) := by
  have hdo := d.dok hd
  have hz := d.szOk
  have ea : (2 : Int) + (d.sz : Int) % 4 = (d.a : Int) := by unfold D37A.a; omega
  have eb : (2 : Int) + (d.sz : Int) / 4 % 3 = (d.b : Int) := by unfold D37A.b; omega
  have ec : (2 : Int) + (d.sz : Int) / 12 % 3 = (d.c : Int) := by unfold D37A.c; omega
  have et : (d.tu : Int) % 6 = ((d.tu % 6 : Nat) : Int) := by omega
  have ht : d.d.t = d.tu % 6 := rfl
  have e0 : (1000 : Int) + (d.u0 : Int) % 9000 = (d.d.s0 : Int) := by simp only [D37A.d]; omega
  have e1 : (1000 : Int) + (d.u1 : Int) % 9000 = (d.d.s1 : Int) := by simp only [D37A.d]; omega
  have e2 : (1000 : Int) + (d.u2 : Int) % 9000 = (d.d.s2 : Int) := by simp only [D37A.d]; omega
  have f0 : d.v0 = d.d.h0 := rfl
  have f1 : d.v1 = d.d.h1 := rfl
  have f2 : d.v2 = d.d.h2 := rfl
  generalize d.a = a at hz ea ⊢
  generalize d.b = b at hz eb ⊢
  generalize d.c = c at hz ec ⊢
  generalize d.d = q at hdo ht e0 e1 e2 f0 f1 f2 ⊢
  obtain ⟨sz, tu, u0, u1, u2, v0, v1, v2⟩ := d
  obtain ⟨h0, h1, h2, h3, h4, h5, h6, h7⟩ := hd
  dsimp only at *
  subst f0 f1 f2
  refine CallsS.of_tri Tryz.func14 rfl Tryz.ntmps14 rfl ?_
  simp only [D37A.cells]
  (repeat' (first | (show TL _ _ _ _ (_ :: _) _ _ _; first | refine TL.sa ?_ | (refine TL.na ?_; intro _)) | (first | refine Stp.h ?_ | refine Post.then_normal ?_ | refine Post.next ?_ | refine Post.block_other rfl ?_) | refine Tri.ca ?_))
  rename_i b1 b2 b4
  rw [ea, eb, ec, et]
  have ht6 : Nat.blt (tu % 6) 6 = true := by rw [Nat.blt_eq]; omega
  obtain ⟨o0, o1, o2, ho0, ho1, ho2, hT, hO⟩ : ∃ o0 o1 o2 : Nat, ordT q.t 0 = o0 ∧ ordT q.t 1 = o1 ∧ ordT q.t 2 = o2 ∧ (([.int .i64 0, .int .i64 1, .int .i64 2, .int .i64 1, .int .i64 0, .int .i64 2, .int .i64 0, .int .i64 2, .int .i64 1, .int .i64 2, .int .i64 1, .int .i64 0, .int .i64 1, .int .i64 2, .int .i64 0, .int .i64 2, .int .i64 0, .int .i64 1] : List Value).drop (tu % 6 * 3)).take 3 = [.int .i64 (o0 : Int), .int .i64 (o1 : Int), .int .i64 (o2 : Int)] ∧ ((o0 = 0 ∧ o1 = 1 ∧ o2 = 2) ∨ (o0 = 1 ∧ o1 = 0 ∧ o2 = 2) ∨ (o0 = 0 ∧ o1 = 2 ∧ o2 = 1) ∨ (o0 = 2 ∧ o1 = 1 ∧ o2 = 0) ∨ (o0 = 1 ∧ o1 = 2 ∧ o2 = 0) ∨ (o0 = 2 ∧ o1 = 0 ∧ o2 = 1)) := by
    rw [ht]
    have h6 : tu % 6 = 0 ∨ tu % 6 = 1 ∨ tu % 6 = 2 ∨ tu % 6 = 3 ∨ tu % 6 = 4 ∨ tu % 6 = 5 := by omega
    rcases h6 with h | h | h | h | h | h <;> rw [h] <;> exact ⟨_, _, _, rfl, rfl, rfl, rfl, by decide⟩
  refine TL.f rfl rfl (ExF.idxArrA rfl rfl rfl ht6 hT) ?_
  (repeat' (first | (show TL _ _ _ _ (_ :: _) _ _ _; first | refine TL.sa ?_ | (refine TL.na ?_; intro _)) | (first | refine Stp.h ?_ | refine Post.then_normal ?_ | refine Post.next ?_ | refine Post.block_other rfl ?_) | refine Tri.ca ?_))
  rename_i b5 bs
  refine TL.f rfl rfl (ExF.build (vs := [.slice (some ⟨bs, 0, none⟩) 3 3, .int .i64 3]) (l := [.slice (some ⟨bs, 0, none⟩) 3 3, .int .i64 3, .slice none 0 0]) rfl (fun w => by kernel_rfl)) ?_
  refine TL.ents (Ents.clW (cI .i64) [(a : Int), (b : Int), (c : Int)] rfl (n := 3) (cap := 3) rfl rfl) ?_
  refine TL.ents (Ents.nilW (T := 3) (cI .i64)) ?_
  (repeat' (first | (show TL _ _ _ _ (_ :: _) _ _ _; first | refine TL.sa ?_ | (refine TL.na ?_; intro _)) | (first | refine Stp.h ?_ | refine Post.then_normal ?_ | refine Post.next ?_ | refine Post.block_other rfl ?_) | refine Tri.ca ?_))
  rename_i b6
  obtain ⟨a2, a5, bb2, bb4, c2, c4⟩ := hz
  obtain ⟨_, ⟨s01, s02⟩, ⟨s11, s12⟩, ⟨s21, s22⟩, _, _, _⟩ := hdo
  clear ea eb ec et hT ht6
  refine Tri.loop (ι := Nat × Value) (fun s => s.1 ≤ a) (fun s => a - s.1) (fun s => [(1, .pointer (some ⟨b1, 0, none⟩)), (2, .pointer (some ⟨b2, 0, none⟩)), (4, .pointer (some ⟨b4, 0, none⟩)), (5, .pointer (some ⟨b5, 0, none⟩)), (6, .pointer (some ⟨b6, 0, none⟩)), (7, .int .i64 (s.1 : Int))])
    (fun s => .cl b6 [.slice (some ⟨bs, 0, none⟩) 3 3, .int .i64 3, s.2] 46 :: .ow (cI .i64) 3 s.2 (gridP q b c (s.1 * b * c)) :: .ow (cI .i64) 3 (.slice (some ⟨bs, 0, none⟩) 3 3) [(a : Int), (b : Int), (c : Int)] :: .cl b5 [.int .i64 (o0 : Int), .int .i64 (o1 : Int), .int .i64 (o2 : Int)] 27 :: .cl b4 [.int .i64 (a : Int), .int .i64 (b : Int), .int .i64 (c : Int)] 27 :: .cl b2 [.slice none 0 0, .int .i64 0, .slice none 0 0] 46 :: .cl b1 [.int .u8 (sz : Int), .int .u8 (tu : Int), .int .u16 (u0 : Int), .int .u16 (u1 : Int), .int .u16 (u2 : Int), .int .u8 (q.h0 : Int), .int .u8 (q.h1 : Int), .int .u8 (q.h2 : Int)] 40 :: As) (0, .slice none 0 0) (Nat.zero_le _) (by (exact Sub.au)) (by simp only [Nat.zero_mul, show gridP q b c 0 = [] from rfl]; (exact Ents.au)) ?_
  rintro ⟨i, dv⟩ hi
  simp only at hi
  show Tri _ _ _ _ [(1, _), (2, _), (4, _), (5, _), (6, _), (7, .int .i64 (i : Int))] (.cl b6 [_, _, dv] _ :: .ow _ _ dv _ :: _) _
  (repeat' (first | (show TL _ _ _ _ (_ :: _) _ _ _; first | refine TL.sa ?_ | (refine TL.na ?_; intro _)) | (first | refine Stp.h ?_ | refine Post.then_normal ?_ | refine Post.next ?_ | refine Post.block_other rfl ?_) | refine Tri.ca ?_))
  ((show Tri _ _ _ (.cond _ _ _) _ _ _; first | refine Tri.condP rfl (fun hc => ?_) (fun hc => ?_) | refine Tri.condN rfl (fun hc => ?_) (fun hc => ?_)))
  · (repeat' (first | (show TL _ _ _ _ (_ :: _) _ _ _; first | refine TL.sa ?_ | (refine TL.na ?_; intro _)) | (first | refine Stp.h ?_ | refine Post.then_normal ?_ | refine Post.next ?_ | refine Post.block_other rfl ?_) | refine Tri.ca ?_))
    refine Tri.loop (ι := Nat × Value) (fun s => s.1 ≤ b) (fun s => b - s.1) (fun s => [(1, .pointer (some ⟨b1, 0, none⟩)), (2, .pointer (some ⟨b2, 0, none⟩)), (4, .pointer (some ⟨b4, 0, none⟩)), (5, .pointer (some ⟨b5, 0, none⟩)), (6, .pointer (some ⟨b6, 0, none⟩)), (7, .int .i64 (i : Int)), (8, .int .i64 (s.1 : Int))])
      (fun s => .cl b6 [.slice (some ⟨bs, 0, none⟩) 3 3, .int .i64 3, s.2] 46 :: .ow (cI .i64) 3 s.2 (gridP q b c ((i * b + s.1) * c)) :: .ow (cI .i64) 3 (.slice (some ⟨bs, 0, none⟩) 3 3) [(a : Int), (b : Int), (c : Int)] :: .cl b5 [.int .i64 (o0 : Int), .int .i64 (o1 : Int), .int .i64 (o2 : Int)] 27 :: .cl b4 [.int .i64 (a : Int), .int .i64 (b : Int), .int .i64 (c : Int)] 27 :: .cl b2 [.slice none 0 0, .int .i64 0, .slice none 0 0] 46 :: .cl b1 [.int .u8 (sz : Int), .int .u8 (tu : Int), .int .u16 (u0 : Int), .int .u16 (u1 : Int), .int .u16 (u2 : Int), .int .u8 (q.h0 : Int), .int .u8 (q.h1 : Int), .int .u8 (q.h2 : Int)] 40 :: As) (0, dv) (Nat.zero_le _) (by (exact Sub.au)) (by simp only [Nat.add_zero]; (exact Ents.au)) ?_
    rintro ⟨j, dv⟩ hj
    simp only at hj
    show Tri _ _ _ _ [(1, _), (2, _), (4, _), (5, _), (6, _), (7, _), (8, .int .i64 (j : Int))] (.cl b6 [_, _, dv] _ :: .ow _ _ dv _ :: _) _
    (repeat' (first | (show TL _ _ _ _ (_ :: _) _ _ _; first | refine TL.sa ?_ | (refine TL.na ?_; intro _)) | (first | refine Stp.h ?_ | refine Post.then_normal ?_ | refine Post.next ?_ | refine Post.block_other rfl ?_) | refine Tri.ca ?_))
    ((show Tri _ _ _ (.cond _ _ _) _ _ _; first | refine Tri.condP rfl (fun hc => ?_) (fun hc => ?_) | refine Tri.condN rfl (fun hc => ?_) (fun hc => ?_)))
    · (repeat' (first | (show TL _ _ _ _ (_ :: _) _ _ _; first | refine TL.sa ?_ | (refine TL.na ?_; intro _)) | (first | refine Stp.h ?_ | refine Post.then_normal ?_ | refine Post.next ?_ | refine Post.block_other rfl ?_) | refine Tri.ca ?_))
      refine Tri.loop (ι := Nat × Value) (fun s => s.1 ≤ c) (fun s => c - s.1) (fun s => [(1, .pointer (some ⟨b1, 0, none⟩)), (2, .pointer (some ⟨b2, 0, none⟩)), (4, .pointer (some ⟨b4, 0, none⟩)), (5, .pointer (some ⟨b5, 0, none⟩)), (6, .pointer (some ⟨b6, 0, none⟩)), (7, .int .i64 (i : Int)), (8, .int .i64 (j : Int)), (9, .int .i64 (s.1 : Int))])
        (fun s => .cl b6 [.slice (some ⟨bs, 0, none⟩) 3 3, .int .i64 3, s.2] 46 :: .ow (cI .i64) 3 s.2 (gridP q b c ((i * b + j) * c + s.1)) :: .ow (cI .i64) 3 (.slice (some ⟨bs, 0, none⟩) 3 3) [(a : Int), (b : Int), (c : Int)] :: .cl b5 [.int .i64 (o0 : Int), .int .i64 (o1 : Int), .int .i64 (o2 : Int)] 27 :: .cl b4 [.int .i64 (a : Int), .int .i64 (b : Int), .int .i64 (c : Int)] 27 :: .cl b2 [.slice none 0 0, .int .i64 0, .slice none 0 0] 46 :: .cl b1 [.int .u8 (sz : Int), .int .u8 (tu : Int), .int .u16 (u0 : Int), .int .u16 (u1 : Int), .int .u16 (u2 : Int), .int .u8 (q.h0 : Int), .int .u8 (q.h1 : Int), .int .u8 (q.h2 : Int)] 40 :: As) (0, dv) (Nat.zero_le _) (by (exact Sub.au)) (by simp only [Nat.add_zero]; (exact Ents.au)) ?_
      rintro ⟨k, dv⟩ hk
      simp only at hk
      show Tri _ _ _ _ [(1, _), (2, _), (4, _), (5, _), (6, _), (7, _), (8, _), (9, .int .i64 (k : Int))] (.cl b6 [_, _, dv] _ :: .ow _ _ dv _ :: _) _
      (repeat' (first | (show TL _ _ _ _ (_ :: _) _ _ _; first | refine TL.sa ?_ | (refine TL.na ?_; intro _)) | (first | refine Stp.h ?_ | refine Post.then_normal ?_ | refine Post.next ?_ | refine Post.block_other rfl ?_) | refine Tri.ca ?_))
      ((show Tri _ _ _ (.cond _ _ _) _ _ _; first | refine Tri.condP rfl (fun hc => ?_) (fun hc => ?_) | refine Tri.condN rfl (fun hc => ?_) (fun hc => ?_)))
      · have hgs : gridP q b c ((i * b + j) * c + k + 1) = gridP q b c ((i * b + j) * c + k) ++ nodeD q ⟨i, j, k⟩ := by rw [gridP_succ, cell_at (by omega) (by omega)]
        have hgl : (gridP q b c ((i * b + j) * c + k)).length ≤ 300 := by
          have hp := lt_cells (a := a) (b := b) (c := c) (i := i) (j := j) (k := k) (by omega) (by omega) (by omega)
          have h1 := Nat.mul_le_mul a5 bb4
          have h2 := Nat.mul_le_mul h1 c4
          rw [gridP_len]; omega
        generalize gridP q b c ((i * b + j) * c + k) = Y at hgs hgl ⊢
        have pb : ∀ s x : Nat, s < 10000 → x ≤ 5 → 0 ≤ (s : Int) * (x : Int) ∧ (s : Int) * (x : Int) ≤ 50000 := fun s x h1 h2 => by
          have := Nat.mul_le_mul (Nat.le_of_lt h1) h2
          omega
        have qb : ∀ s x : Nat, s < 256 → x ≤ 5 → 0 ≤ 8 * (s : Int) * (x : Int) ∧ 8 * (s : Int) * (x : Int) ≤ 12000 := fun s x h1 h2 => by
          have := Nat.mul_le_mul (Nat.le_of_lt h1) h2
          rw [Int.mul_assoc]
          omega
        have p0i := pb q.s0 i (by omega) (by omega)
        have p0j := pb q.s0 j (by omega) (by omega)
        have p0k := pb q.s0 k (by omega) (by omega)
        have p1i := pb q.s1 i (by omega) (by omega)
        have p1j := pb q.s1 j (by omega) (by omega)
        have p1k := pb q.s1 k (by omega) (by omega)
        have p2i := pb q.s2 i (by omega) (by omega)
        have p2j := pb q.s2 j (by omega) (by omega)
        have p2k := pb q.s2 k (by omega) (by omega)
        have q0i := qb q.h0 i (by omega) (by omega)
        have q0j := qb q.h0 j (by omega) (by omega)
        have q0k := qb q.h0 k (by omega) (by omega)
        have q1i := qb q.h1 i (by omega) (by omega)
        have q1j := qb q.h1 j (by omega) (by omega)
        have q1k := qb q.h1 k (by omega) (by omega)
        have q2i := qb q.h2 i (by omega) (by omega)
        have q2j := qb q.h2 j (by omega) (by omega)
        have q2k := qb q.h2 k (by omega) (by omega)
        clear pb qb
        rcases hO with ⟨rfl, rfl, rfl⟩ | ⟨rfl, rfl, rfl⟩ | ⟨rfl, rfl, rfl⟩ | ⟨rfl, rfl, rfl⟩ | ⟨rfl, rfl, rfl⟩ | ⟨rfl, rfl, rfl⟩
        · have hn : nodeD q ⟨i, j, k⟩ = [8000 + (q.s0 : Int) * (i : Int) + 8 * (q.h0 : Int) * (j : Int), 8000 + (q.s1 : Int) * (j : Int) + 8 * (q.h1 : Int) * (k : Int), 8000 + (q.s2 : Int) * (k : Int) + 8 * (q.h2 : Int) * (i : Int)] := by simp only [nodeD, D37.out, ho0, ho1, ho2]; rfl
          rw [hn] at hgs
          (repeat' (first | (show TL _ _ _ _ (_ :: _) _ _ _; first | refine TL.sa ?_ | (refine TL.na ?_; intro _)) | (first | refine Stp.h ?_ | refine Post.then_normal ?_ | refine Post.next ?_ | refine Post.block_other rfl ?_) | refine Tri.ca ?_))
          rename_i b10
          refine Tri.unroll 4 ?_
          (repeat' (first | (show TL _ _ _ _ (_ :: _) _ _ _; first | refine TL.sa ?_ | (refine TL.na ?_; intro _)) | (first | refine Stp.h ?_ | refine Post.then_normal ?_ | refine Post.next ?_ | refine Post.block_other rfl ?_) | refine Tri.ca ?_))
          rw [e0]
          refine Tri.dw (.cl b10 [.int .i64 (i : Int), .int .i64 (j : Int), .int .i64 (k : Int)] 27 :: .cl b6 [.slice (some ⟨bs, 0, none⟩) 3 3, .int .i64 3, dv] 46 :: .cl b5 [.int .i64 ((0 : Nat) : Int), .int .i64 ((1 : Nat) : Int), .int .i64 ((2 : Nat) : Int)] 27 :: .cl b1 [.int .u8 (sz : Int), .int .u8 (tu : Int), .int .u16 (u0 : Int), .int .u16 (u1 : Int), .int .u16 (u2 : Int), .int .u8 (q.h0 : Int), .int .u8 (q.h1 : Int), .int .u8 (q.h2 : Int)] 40 :: []) [] (.take 0 (.take 1 (.take 2 (.take 3 (.take 4 (.take 5 (.take 6 (.take 7 (.take 8 (.take 9 (.take 10 (.take 11 (.take 12 (.take 13 (.take 14 (.take 15 (.take 16 (.take 17 (.take 18 (.take 19 (.take 20 (.take 21 (.take 22 (.take 23 (.take 24 (.all [(25, .all [(26, .take 27 (.all [(28, .done)]))])])))))))))))))))))))))))))) ?_
          (repeat' (first | (show TL _ _ _ _ (_ :: _) _ _ _; first | refine TL.sa ?_ | (refine TL.na ?_; intro _)) | (first | refine Stp.h ?_ | refine Post.then_normal ?_ | refine Post.next ?_ | refine Post.block_other rfl ?_) | (show TT _ _ _ _ _ _ _ _ _; refine TT.sa ?_) | exact TTs.nil | refine TTs.cons ?_ ?_ | (show T1 _ _ _ _ _ _ _ _ _ _; first | refine T1.sa ?_ | (refine T1.na ?_; intro _)) | (show TC _ _ _ _ _ _ _ _ _ _; first | refine TC.goa ?_ | refine TC.fina ?_) | refine Tri.ca ?_))
          rename_i v1
          rw [e1]
          refine Tri.dw (.cl b10 [.int .i64 (i : Int), .int .i64 (j : Int), .int .i64 (k : Int)] 27 :: .cl b6 [.slice (some ⟨bs, 0, none⟩) 3 3, .int .i64 3, v1] 46 :: .cl b5 [.int .i64 ((0 : Nat) : Int), .int .i64 ((1 : Nat) : Int), .int .i64 ((2 : Nat) : Int)] 27 :: .cl b1 [.int .u8 (sz : Int), .int .u8 (tu : Int), .int .u16 (u0 : Int), .int .u16 (u1 : Int), .int .u16 (u2 : Int), .int .u8 (q.h0 : Int), .int .u8 (q.h1 : Int), .int .u8 (q.h2 : Int)] 40 :: []) [] (.take 0 (.take 1 (.take 2 (.take 3 (.take 4 (.take 5 (.take 6 (.take 7 (.take 8 (.take 9 (.take 10 (.take 11 (.take 12 (.take 13 (.take 14 (.take 15 (.take 16 (.take 17 (.take 18 (.take 19 (.take 20 (.take 21 (.take 22 (.take 23 (.take 24 (.all [(25, .all [(26, .take 27 (.all [(28, .done)]))])])))))))))))))))))))))))))) ?_
          (repeat' (first | (show TL _ _ _ _ (_ :: _) _ _ _; first | refine TL.sa ?_ | (refine TL.na ?_; intro _)) | (first | refine Stp.h ?_ | refine Post.then_normal ?_ | refine Post.next ?_ | refine Post.block_other rfl ?_) | (show TT _ _ _ _ _ _ _ _ _; refine TT.sa ?_) | exact TTs.nil | refine TTs.cons ?_ ?_ | (show T1 _ _ _ _ _ _ _ _ _ _; first | refine T1.sa ?_ | (refine T1.na ?_; intro _)) | (show TC _ _ _ _ _ _ _ _ _ _; first | refine TC.goa ?_ | refine TC.fina ?_) | refine Tri.ca ?_))
          rename_i v2
          rw [e2]
          refine Tri.dw (.cl b10 [.int .i64 (i : Int), .int .i64 (j : Int), .int .i64 (k : Int)] 27 :: .cl b6 [.slice (some ⟨bs, 0, none⟩) 3 3, .int .i64 3, v2] 46 :: .cl b5 [.int .i64 ((0 : Nat) : Int), .int .i64 ((1 : Nat) : Int), .int .i64 ((2 : Nat) : Int)] 27 :: .cl b1 [.int .u8 (sz : Int), .int .u8 (tu : Int), .int .u16 (u0 : Int), .int .u16 (u1 : Int), .int .u16 (u2 : Int), .int .u8 (q.h0 : Int), .int .u8 (q.h1 : Int), .int .u8 (q.h2 : Int)] 40 :: []) [] (.take 0 (.take 1 (.take 2 (.take 3 (.take 4 (.take 5 (.take 6 (.take 7 (.take 8 (.take 9 (.take 10 (.take 11 (.take 12 (.take 13 (.take 14 (.take 15 (.take 16 (.take 17 (.take 18 (.take 19 (.take 20 (.take 21 (.take 22 (.take 23 (.take 24 (.all [(25, .all [(26, .take 27 (.all [(28, .done)]))])])))))))))))))))))))))))))) ?_
          (repeat' (first | (show TL _ _ _ _ (_ :: _) _ _ _; first | refine TL.sa ?_ | (refine TL.na ?_; intro _)) | (first | refine Stp.h ?_ | refine Post.then_normal ?_ | refine Post.next ?_ | refine Post.block_other rfl ?_) | (show TT _ _ _ _ _ _ _ _ _; refine TT.sa ?_) | exact TTs.nil | refine TTs.cons ?_ ?_ | (show T1 _ _ _ _ _ _ _ _ _ _; first | refine T1.sa ?_ | (refine T1.na ?_; intro _)) | (show TC _ _ _ _ _ _ _ _ _ _; first | refine TC.goa ?_ | refine TC.fina ?_) | refine Tri.ca ?_))
          rename_i v3
          refine Post.round (k + 1, v3) (by simp only; omega) (by simp only; omega) (by (exact Sub.au)) ?_
          simp only [← Nat.add_assoc]
          rw [hgs]
          simp only [List.append_assoc, List.cons_append, List.nil_append]
          (exact Ents.au)
        · have hn : nodeD q ⟨i, j, k⟩ = [8000 + (q.s0 : Int) * (j : Int) + 8 * (q.h0 : Int) * (i : Int), 8000 + (q.s1 : Int) * (i : Int) + 8 * (q.h1 : Int) * (k : Int), 8000 + (q.s2 : Int) * (k : Int) + 8 * (q.h2 : Int) * (j : Int)] := by simp only [nodeD, D37.out, ho0, ho1, ho2]; rfl
          rw [hn] at hgs
          (repeat' (first | (show TL _ _ _ _ (_ :: _) _ _ _; first | refine TL.sa ?_ | (refine TL.na ?_; intro _)) | (first | refine Stp.h ?_ | refine Post.then_normal ?_ | refine Post.next ?_ | refine Post.block_other rfl ?_) | (show TT _ _ _ _ _ _ _ _ _; refine TT.sa ?_) | exact TTs.nil | refine TTs.cons ?_ ?_ | (show T1 _ _ _ _ _ _ _ _ _ _; first | refine T1.sa ?_ | (refine T1.na ?_; intro _)) | (show TC _ _ _ _ _ _ _ _ _ _; first | refine TC.goa ?_ | refine TC.fina ?_) | refine Tri.ca ?_))
          rename_i b10
          refine Tri.unroll 4 ?_
          (repeat' (first | (show TL _ _ _ _ (_ :: _) _ _ _; first | refine TL.sa ?_ | (refine TL.na ?_; intro _)) | (first | refine Stp.h ?_ | refine Post.then_normal ?_ | refine Post.next ?_ | refine Post.block_other rfl ?_) | (show TT _ _ _ _ _ _ _ _ _; refine TT.sa ?_) | exact TTs.nil | refine TTs.cons ?_ ?_ | (show T1 _ _ _ _ _ _ _ _ _ _; first | refine T1.sa ?_ | (refine T1.na ?_; intro _)) | (show TC _ _ _ _ _ _ _ _ _ _; first | refine TC.goa ?_ | refine TC.fina ?_) | refine Tri.ca ?_))
          rw [e0]
          refine Tri.dw (.cl b10 [.int .i64 (i : Int), .int .i64 (j : Int), .int .i64 (k : Int)] 27 :: .cl b6 [.slice (some ⟨bs, 0, none⟩) 3 3, .int .i64 3, dv] 46 :: .cl b5 [.int .i64 ((1 : Nat) : Int), .int .i64 ((0 : Nat) : Int), .int .i64 ((2 : Nat) : Int)] 27 :: .cl b1 [.int .u8 (sz : Int), .int .u8 (tu : Int), .int .u16 (u0 : Int), .int .u16 (u1 : Int), .int .u16 (u2 : Int), .int .u8 (q.h0 : Int), .int .u8 (q.h1 : Int), .int .u8 (q.h2 : Int)] 40 :: []) [] (.take 0 (.take 1 (.take 2 (.take 3 (.take 4 (.take 5 (.take 6 (.take 7 (.take 8 (.take 9 (.take 10 (.take 11 (.take 12 (.take 13 (.take 14 (.take 15 (.take 16 (.take 17 (.take 18 (.take 19 (.take 20 (.take 21 (.take 22 (.take 23 (.take 24 (.all [(25, .all [(26, .take 27 (.all [(28, .done)]))])])))))))))))))))))))))))))) ?_
          (repeat' (first | (show TL _ _ _ _ (_ :: _) _ _ _; first | refine TL.sa ?_ | (refine TL.na ?_; intro _)) | (first | refine Stp.h ?_ | refine Post.then_normal ?_ | refine Post.next ?_ | refine Post.block_other rfl ?_) | (show TT _ _ _ _ _ _ _ _ _; refine TT.sa ?_) | exact TTs.nil | refine TTs.cons ?_ ?_ | (show T1 _ _ _ _ _ _ _ _ _ _; first | refine T1.sa ?_ | (refine T1.na ?_; intro _)) | (show TC _ _ _ _ _ _ _ _ _ _; first | refine TC.goa ?_ | refine TC.fina ?_) | refine Tri.ca ?_))
          rename_i v1
          rw [e1]
          refine Tri.dw (.cl b10 [.int .i64 (i : Int), .int .i64 (j : Int), .int .i64 (k : Int)] 27 :: .cl b6 [.slice (some ⟨bs, 0, none⟩) 3 3, .int .i64 3, v1] 46 :: .cl b5 [.int .i64 ((1 : Nat) : Int), .int .i64 ((0 : Nat) : Int), .int .i64 ((2 : Nat) : Int)] 27 :: .cl b1 [.int .u8 (sz : Int), .int .u8 (tu : Int), .int .u16 (u0 : Int), .int .u16 (u1 : Int), .int .u16 (u2 : Int), .int .u8 (q.h0 : Int), .int .u8 (q.h1 : Int), .int .u8 (q.h2 : Int)] 40 :: []) [] (.take 0 (.take 1 (.take 2 (.take 3 (.take 4 (.take 5 (.take 6 (.take 7 (.take 8 (.take 9 (.take 10 (.take 11 (.take 12 (.take 13 (.take 14 (.take 15 (.take 16 (.take 17 (.take 18 (.take 19 (.take 20 (.take 21 (.take 22 (.take 23 (.take 24 (.all [(25, .all [(26, .take 27 (.all [(28, .done)]))])])))))))))))))))))))))))))) ?_
          (repeat' (first | (show TL _ _ _ _ (_ :: _) _ _ _; first | refine TL.sa ?_ | (refine TL.na ?_; intro _)) | (first | refine Stp.h ?_ | refine Post.then_normal ?_ | refine Post.next ?_ | refine Post.block_other rfl ?_) | (show TT _ _ _ _ _ _ _ _ _; refine TT.sa ?_) | exact TTs.nil | refine TTs.cons ?_ ?_ | (show T1 _ _ _ _ _ _ _ _ _ _; first | refine T1.sa ?_ | (refine T1.na ?_; intro _)) | (show TC _ _ _ _ _ _ _ _ _ _; first | refine TC.goa ?_ | refine TC.fina ?_) | refine Tri.ca ?_))
          rename_i v2
          rw [e2]
          refine Tri.dw (.cl b10 [.int .i64 (i : Int), .int .i64 (j : Int), .int .i64 (k : Int)] 27 :: .cl b6 [.slice (some ⟨bs, 0, none⟩) 3 3, .int .i64 3, v2] 46 :: .cl b5 [.int .i64 ((1 : Nat) : Int), .int .i64 ((0 : Nat) : Int), .int .i64 ((2 : Nat) : Int)] 27 :: .cl b1 [.int .u8 (sz : Int), .int .u8 (tu : Int), .int .u16 (u0 : Int), .int .u16 (u1 : Int), .int .u16 (u2 : Int), .int .u8 (q.h0 : Int), .int .u8 (q.h1 : Int), .int .u8 (q.h2 : Int)] 40 :: []) [] (.take 0 (.take 1 (.take 2 (.take 3 (.take 4 (.take 5 (.take 6 (.take 7 (.take 8 (.take 9 (.take 10 (.take 11 (.take 12 (.take 13 (.take 14 (.take 15 (.take 16 (.take 17 (.take 18 (.take 19 (.take 20 (.take 21 (.take 22 (.take 23 (.take 24 (.all [(25, .all [(26, .take 27 (.all [(28, .done)]))])])))))))))))))))))))))))))) ?_
          (repeat' (first | (show TL _ _ _ _ (_ :: _) _ _ _; first | refine TL.sa ?_ | (refine TL.na ?_; intro _)) | (first | refine Stp.h ?_ | refine Post.then_normal ?_ | refine Post.next ?_ | refine Post.block_other rfl ?_) | (show TT _ _ _ _ _ _ _ _ _; refine TT.sa ?_) | exact TTs.nil | refine TTs.cons ?_ ?_ | (show T1 _ _ _ _ _ _ _ _ _ _; first | refine T1.sa ?_ | (refine T1.na ?_; intro _)) | (show TC _ _ _ _ _ _ _ _ _ _; first | refine TC.goa ?_ | refine TC.fina ?_) | refine Tri.ca ?_))
          rename_i v3
          refine Post.round (k + 1, v3) (by simp only; omega) (by simp only; omega) (by (exact Sub.au)) ?_
          simp only [← Nat.add_assoc]
          rw [hgs]
          simp only [List.append_assoc, List.cons_append, List.nil_append]
          (exact Ents.au)
        · have hn : nodeD q ⟨i, j, k⟩ = [8000 + (q.s0 : Int) * (i : Int) + 8 * (q.h0 : Int) * (k : Int), 8000 + (q.s1 : Int) * (k : Int) + 8 * (q.h1 : Int) * (j : Int), 8000 + (q.s2 : Int) * (j : Int) + 8 * (q.h2 : Int) * (i : Int)] := by simp only [nodeD, D37.out, ho0, ho1, ho2]; rfl
          rw [hn] at hgs
          (repeat' (first | (show TL _ _ _ _ (_ :: _) _ _ _; first | refine TL.sa ?_ | (refine TL.na ?_; intro _)) | (first | refine Stp.h ?_ | refine Post.then_normal ?_ | refine Post.next ?_ | refine Post.block_other rfl ?_) | (show TT _ _ _ _ _ _ _ _ _; refine TT.sa ?_) | exact TTs.nil | refine TTs.cons ?_ ?_ | (show T1 _ _ _ _ _ _ _ _ _ _; first | refine T1.sa ?_ | (refine T1.na ?_; intro _)) | (show TC _ _ _ _ _ _ _ _ _ _; first | refine TC.goa ?_ | refine TC.fina ?_) | refine Tri.ca ?_))
          rename_i b10
          refine Tri.unroll 4 ?_
          (repeat' (first | (show TL _ _ _ _ (_ :: _) _ _ _; first | refine TL.sa ?_ | (refine TL.na ?_; intro _)) | (first | refine Stp.h ?_ | refine Post.then_normal ?_ | refine Post.next ?_ | refine Post.block_other rfl ?_) | (show TT _ _ _ _ _ _ _ _ _; refine TT.sa ?_) | exact TTs.nil | refine TTs.cons ?_ ?_ | (show T1 _ _ _ _ _ _ _ _ _ _; first | refine T1.sa ?_ | (refine T1.na ?_; intro _)) | (show TC _ _ _ _ _ _ _ _ _ _; first | refine TC.goa ?_ | refine TC.fina ?_) | refine Tri.ca ?_))
          rw [e0]
          refine Tri.dw (.cl b10 [.int .i64 (i : Int), .int .i64 (j : Int), .int .i64 (k : Int)] 27 :: .cl b6 [.slice (some ⟨bs, 0, none⟩) 3 3, .int .i64 3, dv] 46 :: .cl b5 [.int .i64 ((0 : Nat) : Int), .int .i64 ((2 : Nat) : Int), .int .i64 ((1 : Nat) : Int)] 27 :: .cl b1 [.int .u8 (sz : Int), .int .u8 (tu : Int), .int .u16 (u0 : Int), .int .u16 (u1 : Int), .int .u16 (u2 : Int), .int .u8 (q.h0 : Int), .int .u8 (q.h1 : Int), .int .u8 (q.h2 : Int)] 40 :: []) [] (.take 0 (.take 1 (.take 2 (.take 3 (.take 4 (.take 5 (.take 6 (.take 7 (.take 8 (.take 9 (.take 10 (.take 11 (.take 12 (.take 13 (.take 14 (.take 15 (.take 16 (.take 17 (.take 18 (.take 19 (.take 20 (.take 21 (.take 22 (.take 23 (.take 24 (.all [(25, .all [(26, .take 27 (.all [(28, .done)]))])])))))))))))))))))))))))))) ?_
          (repeat' (first | (show TL _ _ _ _ (_ :: _) _ _ _; first | refine TL.sa ?_ | (refine TL.na ?_; intro _)) | (first | refine Stp.h ?_ | refine Post.then_normal ?_ | refine Post.next ?_ | refine Post.block_other rfl ?_) | (show TT _ _ _ _ _ _ _ _ _; refine TT.sa ?_) | exact TTs.nil | refine TTs.cons ?_ ?_ | (show T1 _ _ _ _ _ _ _ _ _ _; first | refine T1.sa ?_ | (refine T1.na ?_; intro _)) | (show TC _ _ _ _ _ _ _ _ _ _; first | refine TC.goa ?_ | refine TC.fina ?_) | refine Tri.ca ?_))
          rename_i v1
          rw [e1]
          refine Tri.dw (.cl b10 [.int .i64 (i : Int), .int .i64 (j : Int), .int .i64 (k : Int)] 27 :: .cl b6 [.slice (some ⟨bs, 0, none⟩) 3 3, .int .i64 3, v1] 46 :: .cl b5 [.int .i64 ((0 : Nat) : Int), .int .i64 ((2 : Nat) : Int), .int .i64 ((1 : Nat) : Int)] 27 :: .cl b1 [.int .u8 (sz : Int), .int .u8 (tu : Int), .int .u16 (u0 : Int), .int .u16 (u1 : Int), .int .u16 (u2 : Int), .int .u8 (q.h0 : Int), .int .u8 (q.h1 : Int), .int .u8 (q.h2 : Int)] 40 :: []) [] (.take 0 (.take 1 (.take 2 (.take 3 (.take 4 (.take 5 (.take 6 (.take 7 (.take 8 (.take 9 (.take 10 (.take 11 (.take 12 (.take 13 (.take 14 (.take 15 (.take 16 (.take 17 (.take 18 (.take 19 (.take 20 (.take 21 (.take 22 (.take 23 (.take 24 (.all [(25, .all [(26, .take 27 (.all [(28, .done)]))])])))))))))))))))))))))))))) ?_
          (repeat' (first | (show TL _ _ _ _ (_ :: _) _ _ _; first | refine TL.sa ?_ | (refine TL.na ?_; intro _)) | (first | refine Stp.h ?_ | refine Post.then_normal ?_ | refine Post.next ?_ | refine Post.block_other rfl ?_) | (show TT _ _ _ _ _ _ _ _ _; refine TT.sa ?_) | exact TTs.nil | refine TTs.cons ?_ ?_ | (show T1 _ _ _ _ _ _ _ _ _ _; first | refine T1.sa ?_ | (refine T1.na ?_; intro _)) | (show TC _ _ _ _ _ _ _ _ _ _; first | refine TC.goa ?_ | refine TC.fina ?_) | refine Tri.ca ?_))
          rename_i v2
          rw [e2]
          refine Tri.dw (.cl b10 [.int .i64 (i : Int), .int .i64 (j : Int), .int .i64 (k : Int)] 27 :: .cl b6 [.slice (some ⟨bs, 0, none⟩) 3 3, .int .i64 3, v2] 46 :: .cl b5 [.int .i64 ((0 : Nat) : Int), .int .i64 ((2 : Nat) : Int), .int .i64 ((1 : Nat) : Int)] 27 :: .cl b1 [.int .u8 (sz : Int), .int .u8 (tu : Int), .int .u16 (u0 : Int), .int .u16 (u1 : Int), .int .u16 (u2 : Int), .int .u8 (q.h0 : Int), .int .u8 (q.h1 : Int), .int .u8 (q.h2 : Int)] 40 :: []) [] (.take 0 (.take 1 (.take 2 (.take 3 (.take 4 (.take 5 (.take 6 (.take 7 (.take 8 (.take 9 (.take 10 (.take 11 (.take 12 (.take 13 (.take 14 (.take 15 (.take 16 (.take 17 (.take 18 (.take 19 (.take 20 (.take 21 (.take 22 (.take 23 (.take 24 (.all [(25, .all [(26, .take 27 (.all [(28, .done)]))])])))))))))))))))))))))))))) ?_
          (repeat' (first | (show TL _ _ _ _ (_ :: _) _ _ _; first | refine TL.sa ?_ | (refine TL.na ?_; intro _)) | (first | refine Stp.h ?_ | refine Post.then_normal ?_ | refine Post.next ?_ | refine Post.block_other rfl ?_) | (show TT _ _ _ _ _ _ _ _ _; refine TT.sa ?_) | exact TTs.nil | refine TTs.cons ?_ ?_ | (show T1 _ _ _ _ _ _ _ _ _ _; first | refine T1.sa ?_ | (refine T1.na ?_; intro _)) | (show TC _ _ _ _ _ _ _ _ _ _; first | refine TC.goa ?_ | refine TC.fina ?_) | refine Tri.ca ?_))
          rename_i v3
          refine Post.round (k + 1, v3) (by simp only; omega) (by simp only; omega) (by (exact Sub.au)) ?_
          simp only [← Nat.add_assoc]
          rw [hgs]
          simp only [List.append_assoc, List.cons_append, List.nil_append]
          (exact Ents.au)
        · have hn : nodeD q ⟨i, j, k⟩ = [8000 + (q.s0 : Int) * (k : Int) + 8 * (q.h0 : Int) * (j : Int), 8000 + (q.s1 : Int) * (j : Int) + 8 * (q.h1 : Int) * (i : Int), 8000 + (q.s2 : Int) * (i : Int) + 8 * (q.h2 : Int) * (k : Int)] := by simp only [nodeD, D37.out, ho0, ho1, ho2]; rfl
          rw [hn] at hgs
          (repeat' (first | (show TL _ _ _ _ (_ :: _) _ _ _; first | refine TL.sa ?_ | (refine TL.na ?_; intro _)) | (first | refine Stp.h ?_ | refine Post.then_normal ?_ | refine Post.next ?_ | refine Post.block_other rfl ?_) | (show TT _ _ _ _ _ _ _ _ _; refine TT.sa ?_) | exact TTs.nil | refine TTs.cons ?_ ?_ | (show T1 _ _ _ _ _ _ _ _ _ _; first | refine T1.sa ?_ | (refine T1.na ?_; intro _)) | (show TC _ _ _ _ _ _ _ _ _ _; first | refine TC.goa ?_ | refine TC.fina ?_) | refine Tri.ca ?_))
          rename_i b10
          refine Tri.unroll 4 ?_
          (repeat' (first | (show TL _ _ _ _ (_ :: _) _ _ _; first | refine TL.sa ?_ | (refine TL.na ?_; intro _)) | (first | refine Stp.h ?_ | refine Post.then_normal ?_ | refine Post.next ?_ | refine Post.block_other rfl ?_) | (show TT _ _ _ _ _ _ _ _ _; refine TT.sa ?_) | exact TTs.nil | refine TTs.cons ?_ ?_ | (show T1 _ _ _ _ _ _ _ _ _ _; first | refine T1.sa ?_ | (refine T1.na ?_; intro _)) | (show TC _ _ _ _ _ _ _ _ _ _; first | refine TC.goa ?_ | refine TC.fina ?_) | refine Tri.ca ?_))
          rw [e0]
          refine Tri.dw (.cl b10 [.int .i64 (i : Int), .int .i64 (j : Int), .int .i64 (k : Int)] 27 :: .cl b6 [.slice (some ⟨bs, 0, none⟩) 3 3, .int .i64 3, dv] 46 :: .cl b5 [.int .i64 ((2 : Nat) : Int), .int .i64 ((1 : Nat) : Int), .int .i64 ((0 : Nat) : Int)] 27 :: .cl b1 [.int .u8 (sz : Int), .int .u8 (tu : Int), .int .u16 (u0 : Int), .int .u16 (u1 : Int), .int .u16 (u2 : Int), .int .u8 (q.h0 : Int), .int .u8 (q.h1 : Int), .int .u8 (q.h2 : Int)] 40 :: []) [] (.take 0 (.take 1 (.take 2 (.take 3 (.take 4 (.take 5 (.take 6 (.take 7 (.take 8 (.take 9 (.take 10 (.take 11 (.take 12 (.take 13 (.take 14 (.take 15 (.take 16 (.take 17 (.take 18 (.take 19 (.take 20 (.take 21 (.take 22 (.take 23 (.take 24 (.all [(25, .all [(26, .take 27 (.all [(28, .done)]))])])))))))))))))))))))))))))) ?_
          (repeat' (first | (show TL _ _ _ _ (_ :: _) _ _ _; first | refine TL.sa ?_ | (refine TL.na ?_; intro _)) | (first | refine Stp.h ?_ | refine Post.then_normal ?_ | refine Post.next ?_ | refine Post.block_other rfl ?_) | (show TT _ _ _ _ _ _ _ _ _; refine TT.sa ?_) | exact TTs.nil | refine TTs.cons ?_ ?_ | (show T1 _ _ _ _ _ _ _ _ _ _; first | refine T1.sa ?_ | (refine T1.na ?_; intro _)) | (show TC _ _ _ _ _ _ _ _ _ _; first | refine TC.goa ?_ | refine TC.fina ?_) | refine Tri.ca ?_))
          rename_i v1
          rw [e1]
          refine Tri.dw (.cl b10 [.int .i64 (i : Int), .int .i64 (j : Int), .int .i64 (k : Int)] 27 :: .cl b6 [.slice (some ⟨bs, 0, none⟩) 3 3, .int .i64 3, v1] 46 :: .cl b5 [.int .i64 ((2 : Nat) : Int), .int .i64 ((1 : Nat) : Int), .int .i64 ((0 : Nat) : Int)] 27 :: .cl b1 [.int .u8 (sz : Int), .int .u8 (tu : Int), .int .u16 (u0 : Int), .int .u16 (u1 : Int), .int .u16 (u2 : Int), .int .u8 (q.h0 : Int), .int .u8 (q.h1 : Int), .int .u8 (q.h2 : Int)] 40 :: []) [] (.take 0 (.take 1 (.take 2 (.take 3 (.take 4 (.take 5 (.take 6 (.take 7 (.take 8 (.take 9 (.take 10 (.take 11 (.take 12 (.take 13 (.take 14 (.take 15 (.take 16 (.take 17 (.take 18 (.take 19 (.take 20 (.take 21 (.take 22 (.take 23 (.take 24 (.all [(25, .all [(26, .take 27 (.all [(28, .done)]))])])))))))))))))))))))))))))) ?_
          (repeat' (first | (show TL _ _ _ _ (_ :: _) _ _ _; first | refine TL.sa ?_ | (refine TL.na ?_; intro _)) | (first | refine Stp.h ?_ | refine Post.then_normal ?_ | refine Post.next ?_ | refine Post.block_other rfl ?_) | (show TT _ _ _ _ _ _ _ _ _; refine TT.sa ?_) | exact TTs.nil | refine TTs.cons ?_ ?_ | (show T1 _ _ _ _ _ _ _ _ _ _; first | refine T1.sa ?_ | (refine T1.na ?_; intro _)) | (show TC _ _ _ _ _ _ _ _ _ _; first | refine TC.goa ?_ | refine TC.fina ?_) | refine Tri.ca ?_))
          rename_i v2
          rw [e2]
          refine Tri.dw (.cl b10 [.int .i64 (i : Int), .int .i64 (j : Int), .int .i64 (k : Int)] 27 :: .cl b6 [.slice (some ⟨bs, 0, none⟩) 3 3, .int .i64 3, v2] 46 :: .cl b5 [.int .i64 ((2 : Nat) : Int), .int .i64 ((1 : Nat) : Int), .int .i64 ((0 : Nat) : Int)] 27 :: .cl b1 [.int .u8 (sz : Int), .int .u8 (tu : Int), .int .u16 (u0 : Int), .int .u16 (u1 : Int), .int .u16 (u2 : Int), .int .u8 (q.h0 : Int), .int .u8 (q.h1 : Int), .int .u8 (q.h2 : Int)] 40 :: []) [] (.take 0 (.take 1 (.take 2 (.take 3 (.take 4 (.take 5 (.take 6 (.take 7 (.take 8 (.take 9 (.take 10 (.take 11 (.take 12 (.take 13 (.take 14 (.take 15 (.take 16 (.take 17 (.take 18 (.take 19 (.take 20 (.take 21 (.take 22 (.take 23 (.take 24 (.all [(25, .all [(26, .take 27 (.all [(28, .done)]))])])))))))))))))))))))))))))) ?_
          (repeat' (first | (show TL _ _ _ _ (_ :: _) _ _ _; first | refine TL.sa ?_ | (refine TL.na ?_; intro _)) | (first | refine Stp.h ?_ | refine Post.then_normal ?_ | refine Post.next ?_ | refine Post.block_other rfl ?_) | (show TT _ _ _ _ _ _ _ _ _; refine TT.sa ?_) | exact TTs.nil | refine TTs.cons ?_ ?_ | (show T1 _ _ _ _ _ _ _ _ _ _; first | refine T1.sa ?_ | (refine T1.na ?_; intro _)) | (show TC _ _ _ _ _ _ _ _ _ _; first | refine TC.goa ?_ | refine TC.fina ?_) | refine Tri.ca ?_))
          rename_i v3
          refine Post.round (k + 1, v3) (by simp only; omega) (by simp only; omega) (by (exact Sub.au)) ?_
          simp only [← Nat.add_assoc]
          rw [hgs]
          simp only [List.append_assoc, List.cons_append, List.nil_append]
          (exact Ents.au)
        · have hn : nodeD q ⟨i, j, k⟩ = [8000 + (q.s0 : Int) * (j : Int) + 8 * (q.h0 : Int) * (k : Int), 8000 + (q.s1 : Int) * (k : Int) + 8 * (q.h1 : Int) * (i : Int), 8000 + (q.s2 : Int) * (i : Int) + 8 * (q.h2 : Int) * (j : Int)] := by simp only [nodeD, D37.out, ho0, ho1, ho2]; rfl
          rw [hn] at hgs
          (repeat' (first | (show TL _ _ _ _ (_ :: _) _ _ _; first | refine TL.sa ?_ | (refine TL.na ?_; intro _)) | (first | refine Stp.h ?_ | refine Post.then_normal ?_ | refine Post.next ?_ | refine Post.block_other rfl ?_) | (show TT _ _ _ _ _ _ _ _ _; refine TT.sa ?_) | exact TTs.nil | refine TTs.cons ?_ ?_ | (show T1 _ _ _ _ _ _ _ _ _ _; first | refine T1.sa ?_ | (refine T1.na ?_; intro _)) | (show TC _ _ _ _ _ _ _ _ _ _; first | refine TC.goa ?_ | refine TC.fina ?_) | refine Tri.ca ?_))
          rename_i b10
          refine Tri.unroll 4 ?_
          (repeat' (first | (show TL _ _ _ _ (_ :: _) _ _ _; first | refine TL.sa ?_ | (refine TL.na ?_; intro _)) | (first | refine Stp.h ?_ | refine Post.then_normal ?_ | refine Post.next ?_ | refine Post.block_other rfl ?_) | (show TT _ _ _ _ _ _ _ _ _; refine TT.sa ?_) | exact TTs.nil | refine TTs.cons ?_ ?_ | (show T1 _ _ _ _ _ _ _ _ _ _; first | refine T1.sa ?_ | (refine T1.na ?_; intro _)) | (show TC _ _ _ _ _ _ _ _ _ _; first | refine TC.goa ?_ | refine TC.fina ?_) | refine Tri.ca ?_))
          rw [e0]
          refine Tri.dw (.cl b10 [.int .i64 (i : Int), .int .i64 (j : Int), .int .i64 (k : Int)] 27 :: .cl b6 [.slice (some ⟨bs, 0, none⟩) 3 3, .int .i64 3, dv] 46 :: .cl b5 [.int .i64 ((1 : Nat) : Int), .int .i64 ((2 : Nat) : Int), .int .i64 ((0 : Nat) : Int)] 27 :: .cl b1 [.int .u8 (sz : Int), .int .u8 (tu : Int), .int .u16 (u0 : Int), .int .u16 (u1 : Int), .int .u16 (u2 : Int), .int .u8 (q.h0 : Int), .int .u8 (q.h1 : Int), .int .u8 (q.h2 : Int)] 40 :: []) [] (.take 0 (.take 1 (.take 2 (.take 3 (.take 4 (.take 5 (.take 6 (.take 7 (.take 8 (.take 9 (.take 10 (.take 11 (.take 12 (.take 13 (.take 14 (.take 15 (.take 16 (.take 17 (.take 18 (.take 19 (.take 20 (.take 21 (.take 22 (.take 23 (.take 24 (.all [(25, .all [(26, .take 27 (.all [(28, .done)]))])])))))))))))))))))))))))))) ?_
          (repeat' (first | (show TL _ _ _ _ (_ :: _) _ _ _; first | refine TL.sa ?_ | (refine TL.na ?_; intro _)) | (first | refine Stp.h ?_ | refine Post.then_normal ?_ | refine Post.next ?_ | refine Post.block_other rfl ?_) | (show TT _ _ _ _ _ _ _ _ _; refine TT.sa ?_) | exact TTs.nil | refine TTs.cons ?_ ?_ | (show T1 _ _ _ _ _ _ _ _ _ _; first | refine T1.sa ?_ | (refine T1.na ?_; intro _)) | (show TC _ _ _ _ _ _ _ _ _ _; first | refine TC.goa ?_ | refine TC.fina ?_) | refine Tri.ca ?_))
          rename_i v1
          rw [e1]
          refine Tri.dw (.cl b10 [.int .i64 (i : Int), .int .i64 (j : Int), .int .i64 (k : Int)] 27 :: .cl b6 [.slice (some ⟨bs, 0, none⟩) 3 3, .int .i64 3, v1] 46 :: .cl b5 [.int .i64 ((1 : Nat) : Int), .int .i64 ((2 : Nat) : Int), .int .i64 ((0 : Nat) : Int)] 27 :: .cl b1 [.int .u8 (sz : Int), .int .u8 (tu : Int), .int .u16 (u0 : Int), .int .u16 (u1 : Int), .int .u16 (u2 : Int), .int .u8 (q.h0 : Int), .int .u8 (q.h1 : Int), .int .u8 (q.h2 : Int)] 40 :: []) [] (.take 0 (.take 1 (.take 2 (.take 3 (.take 4 (.take 5 (.take 6 (.take 7 (.take 8 (.take 9 (.take 10 (.take 11 (.take 12 (.take 13 (.take 14 (.take 15 (.take 16 (.take 17 (.take 18 (.take 19 (.take 20 (.take 21 (.take 22 (.take 23 (.take 24 (.all [(25, .all [(26, .take 27 (.all [(28, .done)]))])])))))))))))))))))))))))))) ?_
          (repeat' (first | (show TL _ _ _ _ (_ :: _) _ _ _; first | refine TL.sa ?_ | (refine TL.na ?_; intro _)) | (first | refine Stp.h ?_ | refine Post.then_normal ?_ | refine Post.next ?_ | refine Post.block_other rfl ?_) | (show TT _ _ _ _ _ _ _ _ _; refine TT.sa ?_) | exact TTs.nil | refine TTs.cons ?_ ?_ | (show T1 _ _ _ _ _ _ _ _ _ _; first | refine T1.sa ?_ | (refine T1.na ?_; intro _)) | (show TC _ _ _ _ _ _ _ _ _ _; first | refine TC.goa ?_ | refine TC.fina ?_) | refine Tri.ca ?_))
          rename_i v2
          rw [e2]
          refine Tri.dw (.cl b10 [.int .i64 (i : Int), .int .i64 (j : Int), .int .i64 (k : Int)] 27 :: .cl b6 [.slice (some ⟨bs, 0, none⟩) 3 3, .int .i64 3, v2] 46 :: .cl b5 [.int .i64 ((1 : Nat) : Int), .int .i64 ((2 : Nat) : Int), .int .i64 ((0 : Nat) : Int)] 27 :: .cl b1 [.int .u8 (sz : Int), .int .u8 (tu : Int), .int .u16 (u0 : Int), .int .u16 (u1 : Int), .int .u16 (u2 : Int), .int .u8 (q.h0 : Int), .int .u8 (q.h1 : Int), .int .u8 (q.h2 : Int)] 40 :: []) [] (.take 0 (.take 1 (.take 2 (.take 3 (.take 4 (.take 5 (.take 6 (.take 7 (.take 8 (.take 9 (.take 10 (.take 11 (.take 12 (.take 13 (.take 14 (.take 15 (.take 16 (.take 17 (.take 18 (.take 19 (.take 20 (.take 21 (.take 22 (.take 23 (.take 24 (.all [(25, .all [(26, .take 27 (.all [(28, .done)]))])])))))))))))))))))))))))))) ?_
          (repeat' (first | (show TL _ _ _ _ (_ :: _) _ _ _; first | refine TL.sa ?_ | (refine TL.na ?_; intro _)) | (first | refine Stp.h ?_ | refine Post.then_normal ?_ | refine Post.next ?_ | refine Post.block_other rfl ?_) | (show TT _ _ _ _ _ _ _ _ _; refine TT.sa ?_) | exact TTs.nil | refine TTs.cons ?_ ?_ | (show T1 _ _ _ _ _ _ _ _ _ _; first | refine T1.sa ?_ | (refine T1.na ?_; intro _)) | (show TC _ _ _ _ _ _ _ _ _ _; first | refine TC.goa ?_ | refine TC.fina ?_) | refine Tri.ca ?_))
          rename_i v3
          refine Post.round (k + 1, v3) (by simp only; omega) (by simp only; omega) (by (exact Sub.au)) ?_
          simp only [← Nat.add_assoc]
          rw [hgs]
          simp only [List.append_assoc, List.cons_append, List.nil_append]
          (exact Ents.au)
        · have hn : nodeD q ⟨i, j, k⟩ = [8000 + (q.s0 : Int) * (k : Int) + 8 * (q.h0 : Int) * (i : Int), 8000 + (q.s1 : Int) * (i : Int) + 8 * (q.h1 : Int) * (j : Int), 8000 + (q.s2 : Int) * (j : Int) + 8 * (q.h2 : Int) * (k : Int)] := by simp only [nodeD, D37.out, ho0, ho1, ho2]; rfl
          rw [hn] at hgs
          (repeat' (first | (show TL _ _ _ _ (_ :: _) _ _ _; first | refine TL.sa ?_ | (refine TL.na ?_; intro _)) | (first | refine Stp.h ?_ | refine Post.then_normal ?_ | refine Post.next ?_ | refine Post.block_other rfl ?_) | (show TT _ _ _ _ _ _ _ _ _; refine TT.sa ?_) | exact TTs.nil | refine TTs.cons ?_ ?_ | (show T1 _ _ _ _ _ _ _ _ _ _; first | refine T1.sa ?_ | (refine T1.na ?_; intro _)) | (show TC _ _ _ _ _ _ _ _ _ _; first | refine TC.goa ?_ | refine TC.fina ?_) | refine Tri.ca ?_))
          rename_i b10
          refine Tri.unroll 4 ?_
          (repeat' (first | (show TL _ _ _ _ (_ :: _) _ _ _; first | refine TL.sa ?_ | (refine TL.na ?_; intro _)) | (first | refine Stp.h ?_ | refine Post.then_normal ?_ | refine Post.next ?_ | refine Post.block_other rfl ?_) | (show TT _ _ _ _ _ _ _ _ _; refine TT.sa ?_) | exact TTs.nil | refine TTs.cons ?_ ?_ | (show T1 _ _ _ _ _ _ _ _ _ _; first | refine T1.sa ?_ | (refine T1.na ?_; intro _)) | (show TC _ _ _ _ _ _ _ _ _ _; first | refine TC.goa ?_ | refine TC.fina ?_) | refine Tri.ca ?_))
          rw [e0]
          refine Tri.dw (.cl b10 [.int .i64 (i : Int), .int .i64 (j : Int), .int .i64 (k : Int)] 27 :: .cl b6 [.slice (some ⟨bs, 0, none⟩) 3 3, .int .i64 3, dv] 46 :: .cl b5 [.int .i64 ((2 : Nat) : Int), .int .i64 ((0 : Nat) : Int), .int .i64 ((1 : Nat) : Int)] 27 :: .cl b1 [.int .u8 (sz : Int), .int .u8 (tu : Int), .int .u16 (u0 : Int), .int .u16 (u1 : Int), .int .u16 (u2 : Int), .int .u8 (q.h0 : Int), .int .u8 (q.h1 : Int), .int .u8 (q.h2 : Int)] 40 :: []) [] (.take 0 (.take 1 (.take 2 (.take 3 (.take 4 (.take 5 (.take 6 (.take 7 (.take 8 (.take 9 (.take 10 (.take 11 (.take 12 (.take 13 (.take 14 (.take 15 (.take 16 (.take 17 (.take 18 (.take 19 (.take 20 (.take 21 (.take 22 (.take 23 (.take 24 (.all [(25, .all [(26, .take 27 (.all [(28, .done)]))])])))))))))))))))))))))))))) ?_
          (repeat' (first | (show TL _ _ _ _ (_ :: _) _ _ _; first | refine TL.sa ?_ | (refine TL.na ?_; intro _)) | (first | refine Stp.h ?_ | refine Post.then_normal ?_ | refine Post.next ?_ | refine Post.block_other rfl ?_) | (show TT _ _ _ _ _ _ _ _ _; refine TT.sa ?_) | exact TTs.nil | refine TTs.cons ?_ ?_ | (show T1 _ _ _ _ _ _ _ _ _ _; first | refine T1.sa ?_ | (refine T1.na ?_; intro _)) | (show TC _ _ _ _ _ _ _ _ _ _; first | refine TC.goa ?_ | refine TC.fina ?_) | refine Tri.ca ?_))
          rename_i v1
          rw [e1]
          refine Tri.dw (.cl b10 [.int .i64 (i : Int), .int .i64 (j : Int), .int .i64 (k : Int)] 27 :: .cl b6 [.slice (some ⟨bs, 0, none⟩) 3 3, .int .i64 3, v1] 46 :: .cl b5 [.int .i64 ((2 : Nat) : Int), .int .i64 ((0 : Nat) : Int), .int .i64 ((1 : Nat) : Int)] 27 :: .cl b1 [.int .u8 (sz : Int), .int .u8 (tu : Int), .int .u16 (u0 : Int), .int .u16 (u1 : Int), .int .u16 (u2 : Int), .int .u8 (q.h0 : Int), .int .u8 (q.h1 : Int), .int .u8 (q.h2 : Int)] 40 :: []) [] (.take 0 (.take 1 (.take 2 (.take 3 (.take 4 (.take 5 (.take 6 (.take 7 (.take 8 (.take 9 (.take 10 (.take 11 (.take 12 (.take 13 (.take 14 (.take 15 (.take 16 (.take 17 (.take 18 (.take 19 (.take 20 (.take 21 (.take 22 (.take 23 (.take 24 (.all [(25, .all [(26, .take 27 (.all [(28, .done)]))])])))))))))))))))))))))))))) ?_
          (repeat' (first | (show TL _ _ _ _ (_ :: _) _ _ _; first | refine TL.sa ?_ | (refine TL.na ?_; intro _)) | (first | refine Stp.h ?_ | refine Post.then_normal ?_ | refine Post.next ?_ | refine Post.block_other rfl ?_) | (show TT _ _ _ _ _ _ _ _ _; refine TT.sa ?_) | exact TTs.nil | refine TTs.cons ?_ ?_ | (show T1 _ _ _ _ _ _ _ _ _ _; first | refine T1.sa ?_ | (refine T1.na ?_; intro _)) | (show TC _ _ _ _ _ _ _ _ _ _; first | refine TC.goa ?_ | refine TC.fina ?_) | refine Tri.ca ?_))
          rename_i v2
          rw [e2]
          refine Tri.dw (.cl b10 [.int .i64 (i : Int), .int .i64 (j : Int), .int .i64 (k : Int)] 27 :: .cl b6 [.slice (some ⟨bs, 0, none⟩) 3 3, .int .i64 3, v2] 46 :: .cl b5 [.int .i64 ((2 : Nat) : Int), .int .i64 ((0 : Nat) : Int), .int .i64 ((1 : Nat) : Int)] 27 :: .cl b1 [.int .u8 (sz : Int), .int .u8 (tu : Int), .int .u16 (u0 : Int), .int .u16 (u1 : Int), .int .u16 (u2 : Int), .int .u8 (q.h0 : Int), .int .u8 (q.h1 : Int), .int .u8 (q.h2 : Int)] 40 :: []) [] (.take 0 (.take 1 (.take 2 (.take 3 (.take 4 (.take 5 (.take 6 (.take 7 (.take 8 (.take 9 (.take 10 (.take 11 (.take 12 (.take 13 (.take 14 (.take 15 (.take 16 (.take 17 (.take 18 (.take 19 (.take 20 (.take 21 (.take 22 (.take 23 (.take 24 (.all [(25, .all [(26, .take 27 (.all [(28, .done)]))])])))))))))))))))))))))))))) ?_
          (repeat' (first | (show TL _ _ _ _ (_ :: _) _ _ _; first | refine TL.sa ?_ | (refine TL.na ?_; intro _)) | (first | refine Stp.h ?_ | refine Post.then_normal ?_ | refine Post.next ?_ | refine Post.block_other rfl ?_) | (show TT _ _ _ _ _ _ _ _ _; refine TT.sa ?_) | exact TTs.nil | refine TTs.cons ?_ ?_ | (show T1 _ _ _ _ _ _ _ _ _ _; first | refine T1.sa ?_ | (refine T1.na ?_; intro _)) | (show TC _ _ _ _ _ _ _ _ _ _; first | refine TC.goa ?_ | refine TC.fina ?_) | refine Tri.ca ?_))
          rename_i v3
          refine Post.round (k + 1, v3) (by simp only; omega) (by simp only; omega) (by (exact Sub.au)) ?_
          simp only [← Nat.add_assoc]
          rw [hgs]
          simp only [List.append_assoc, List.cons_append, List.nil_append]
          (exact Ents.au)
      · have hkc : k = c := by omega
        (repeat' (first | (show TL _ _ _ _ (_ :: _) _ _ _; first | refine TL.sa ?_ | (refine TL.na ?_; intro _)) | (first | refine Stp.h ?_ | refine Post.then_normal ?_ | refine Post.next ?_ | refine Post.block_other rfl ?_) | (show TT _ _ _ _ _ _ _ _ _; refine TT.sa ?_) | exact TTs.nil | refine TTs.cons ?_ ?_ | (show T1 _ _ _ _ _ _ _ _ _ _; first | refine T1.sa ?_ | (refine T1.na ?_; intro _)) | (show TC _ _ _ _ _ _ _ _ _ _; first | refine TC.goa ?_ | refine TC.fina ?_) | refine Tri.ca ?_))
        refine Post.round (j + 1, dv) (by simp only; omega) (by simp only; omega) (by (exact Sub.au)) ?_
        simp only
        rw [show (i * b + (j + 1)) * c = (i * b + j) * c + k by rw [hkc, ← Nat.add_assoc, Nat.succ_mul]]
        (exact Ents.au)
    · have hjb : j = b := by omega
      (repeat' (first | (show TL _ _ _ _ (_ :: _) _ _ _; first | refine TL.sa ?_ | (refine TL.na ?_; intro _)) | (first | refine Stp.h ?_ | refine Post.then_normal ?_ | refine Post.next ?_ | refine Post.block_other rfl ?_) | (show TT _ _ _ _ _ _ _ _ _; refine TT.sa ?_) | exact TTs.nil | refine TTs.cons ?_ ?_ | (show T1 _ _ _ _ _ _ _ _ _ _; first | refine T1.sa ?_ | (refine T1.na ?_; intro _)) | (show TC _ _ _ _ _ _ _ _ _ _; first | refine TC.goa ?_ | refine TC.fina ?_) | refine Tri.ca ?_))
      refine Post.round (i + 1, dv) (by simp only; omega) (by simp only; omega) (by (exact Sub.au)) ?_
      simp only
      rw [show (i + 1) * b * c = (i * b + j) * c by rw [hjb, Nat.succ_mul]]
      (exact Ents.au)
  · have hia : i = a := by omega
    subst hia
    refine Tri.rdSl (c := cI .i64) (xs := gridP q b c (i * b * c)) dv ?_
    rintro dp dc rfl
    (repeat' (first | (show TL _ _ _ _ (_ :: _) _ _ _; first | refine TL.sa ?_ | (refine TL.na ?_; intro _)) | (first | refine Stp.h ?_ | refine Post.then_normal ?_ | refine Post.next ?_ | refine Post.block_other rfl ?_) | refine Tri.ca ?_))
    (refine Post.ra ?_)
    exact ⟨_, ⟨_, _, rfl, rfl⟩, by simp only [gridD]; (exact Ents.au)⟩
end Go.Proofs.YtjpghlljcibcjaaGreatDoor
namespace Go.Sx
open Go Go.Proofs.YtjpghlljcibcjaaGreatDoor
def inW (p : V3) : Prop := (0 ≤ p.x ∧ p.x ≤ 65535) ∧ (0 ≤ p.y ∧ p.y ≤ 65535) ∧ (0 ≤ p.z ∧ p.z ≤ 65535)
def phi (q : D37) (x : V3) : V3 := colV (q.out x)
end Go.Sx
namespace Go.Proofs.YtjpghlljcibcjaaGreatDoor
open Go Go.Sx
variable {w0 : World} {As : List Ent}
end Go.Proofs.YtjpghlljcibcjaaGreatDoor
