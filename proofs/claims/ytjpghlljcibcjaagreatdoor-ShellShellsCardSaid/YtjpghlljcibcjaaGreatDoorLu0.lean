/- What a draft of any grid holds. Walks: shells: any grid that a draft makes. Walks: shells: any grid of three inputs that a draft makes. -/
import Derived.Test.YtjpghlljcibcjaaGreatDoorSx9
import Derived.Test.YtjpghlljcibcjaaGreatDoorTy
import Derived.Test.YtjpghlljcibcjaaGreatDoorSw3
import Derived.Test.YtjpghlljcibcjaaGreatDoorSxB
namespace Go.Sx
open Go
structure G10A where
  sv : Value
  ou : Nat
  vv : Value
  sm : Bool
  S : List Int
  V : List Int
def G10A.cells (d : G10A) : List Value := [d.sv, .int .u8 (d.ou : Int), d.vv, .bool d.sm]
def G10A.ok (d : G10A) : Prop := d.ou < 256 ∧ (∀ y ∈ d.S, 0 ≤ y ∧ y ≤ 255) ∧ (∀ y ∈ d.V, 0 ≤ y ∧ y ≤ 65535) ∧ d.S.length ≤ 9223372036854775807 ∧ d.V.length ≤ 9223372036854775807
end Go.Sx
namespace Go.Proofs.YtjpghlljcibcjaaGreatDoor
open Go Go.Sx
variable {w0 : World} {As : List Ent}
set_option maxHeartbeats 2000000 in
theorem index10_ok {v : Value} {S : List Int} [hr : RdIn As v Int (cI .i64) S] (hS : ∀ x ∈ S, 2 ≤ x ∧ x ≤ 9) (hl : S.length ≤ 4) {n : Int} (hn : 0 ≤ n ∧ n ≤ 10000) :
    CallsS Tryz.prog w0 49 [v, .int .i64 n] As fun u Bs => ∃ I : List Int, I.length = S.length ∧ (∀ x ∈ I, 0 ≤ x ∧ x ≤ 8) ∧ Bs = .ow (cI .i64) 3 u I :: As := by
  refine CallsS.rdOne v fun hv => ?_
  refine CallsS.of_tri Tryz.func49 rfl Tryz.ntmps49 rfl ?_
  (repeat' (first | (show TL _ _ _ _ (_ :: _) _ _ _; first | refine TL.sa ?_ | (refine TL.na ?_; intro _)) | (first | refine Stp.h ?_ | refine Post.then_normal ?_ | refine Post.next ?_ | refine Post.block_other rfl ?_) | refine Tri.ca ?_))
  rename_i ov
  refine Tri.loop (ι := Nat × List Int × Int) (fun s => s.1 ≤ S.length ∧ s.2.1.length = S.length ∧ (∀ x ∈ s.2.1, 0 ≤ x ∧ x ≤ 8) ∧ 0 ≤ s.2.2 ∧ s.2.2 ≤ 10000) (fun s => s.1)
    (fun s => [(0, v), (1, .int .i64 s.2.2), (5, ov), (6, .int .i64 ((s.1 : Int) - 1))]) (fun s => .ow (cI .i64) 3 ov s.2.1 :: As) (S.length, List.replicate S.length 0, n) ⟨Nat.le_refl _, by simp, fun x hx => by simp only at hx; rw [(List.mem_replicate.1 hx).2]; omega, hn.1, hn.2⟩ (by (exact Sub.au)) (by (exact Ents.au)) ?_
  rintro ⟨j, I, m⟩ ⟨hj, hI, hIx, hm0, hm1⟩
  simp only at hj hI hIx hm0 hm1
  show Tri _ _ _ _ [(0, _), (1, .int .i64 m), (5, _), (6, .int .i64 ((j : Int) - 1))] (.ow _ _ ov I :: _) _
  (repeat' (first | (show TL _ _ _ _ (_ :: _) _ _ _; first | refine TL.sa ?_ | (refine TL.na ?_; intro _)) | (first | refine Stp.h ?_ | refine Post.then_normal ?_ | refine Post.next ?_ | refine Post.block_other rfl ?_) | refine Tri.ca ?_))
  ((show Tri _ _ _ (.cond _ _ _) _ _ _; first | refine Tri.condP rfl (fun hc => ?_) (fun hc => ?_) | refine Tri.condN rfl (fun hc => ?_) (fun hc => ?_)))
  · obtain ⟨i, rfl⟩ : ∃ i, j = i + 1 := ⟨j - 1, by omega⟩
    rw [show ((i + 1 : Nat) : Int) - 1 = (i : Int) by omega]
    obtain ⟨x, hx⟩ : ∃ x, S[i]? = some x := ⟨_, List.getElem?_eq_getElem (by omega)⟩
    obtain ⟨x2, x9⟩ := hS x (List.mem_of_getElem? hx)
    have r0 := Int.emod_nonneg m (show x ≠ 0 by omega)
    have r1 := Int.emod_lt_of_pos m (show 0 < x by omega)
    have q0 : 0 ≤ m / x := Int.ediv_nonneg hm0 (by omega)
    have q1 : m / x ≤ m := Int.ediv_le_self _ hm0
    (repeat' (first | (show TL _ _ _ _ (_ :: _) _ _ _; first | refine TL.sa ?_ | (refine TL.na ?_; intro _)) | (first | refine Stp.h ?_ | refine Post.then_normal ?_ | refine Post.next ?_ | refine Post.block_other rfl ?_) | refine Tri.ca ?_))
    exact Post.round (i, I.set i (m % x), m / x) ⟨by simp only; omega, by simp only [List.length_set]; exact hI, fun y hy => by
      simp only at hy
      rcases List.mem_or_eq_of_mem_set hy with h | h
      · exact hIx y h
      · omega, by simp only; omega, by simp only; omega⟩ (by simp only; omega) (by (exact Sub.au)) (by (exact Ents.au))
  · (repeat' (first | (show TL _ _ _ _ (_ :: _) _ _ _; first | refine TL.sa ?_ | (refine TL.na ?_; intro _)) | (first | refine Stp.h ?_ | refine Post.then_normal ?_ | refine Post.next ?_ | refine Post.block_other rfl ?_) | refine Tri.ca ?_))
    (refine Post.ra ?_)
    exact ⟨_, ⟨I, hI, hIx, rfl⟩, by (exact Ents.au)⟩
set_option maxRecDepth 100000 in
set_option maxHeartbeats 8000000 in
theorem made10_ok (d : G10A) (hd : d.ok) {v : Value} {S : List Int} {out : Nat} [hr : RdIn As v Int (cI .i64) S] [hv : RdIn As d.vv Int (cI .u16) d.V] (hs1 : d.sv.oneCell' = true) (hS : ∀ x ∈ S, 2 ≤ x ∧ x ≤ 9) (hl0 : 1 ≤ S.length) (hl : S.length ≤ 4) (ho : out ≤ 4) :
    CallsS Tryz.prog w0 28 [.agg d.cells.toArray, v, .int .i64 (out : Int)] As fun u Bs => ∃ (dv : Value) (D : List Int), D.length ≤ 100000 ∧ u = .agg #[v, .int .i64 (out : Int), dv] ∧ Bs = .ow (cI .i64) 3 dv D :: As := by
  obtain ⟨sv, ou, vv, sm, S0, V⟩ := d
  obtain ⟨_, _, hV, _, hVl⟩ := hd
  simp only at hV hVl hv hs1
  simp only [G10A.cells]
  obtain ⟨p1, p2⟩ := prod_small hS (k := S.length) hl
  rw [List.take_length] at p1 p2
  obtain ⟨pN, hpN⟩ : ∃ pN : Nat, prodI S = (pN : Int) := ⟨(prodI S).toNat, by omega⟩
  refine CallsS.rdSl v fun pv cv hv1 => CallsS.rdOne vv fun hv2 => ?_
  subst hv1
  refine CallsS.of_tri Tryz.func28 rfl Tryz.ntmps28 rfl ?_
  (repeat' (first | (show TL _ _ _ _ (_ :: _) _ _ _; first | refine TL.sa ?_ | (refine TL.na ?_; intro _)) | (first | refine Stp.h ?_ | refine Post.then_normal ?_ | refine Post.next ?_ | refine Post.block_other rfl ?_) | refine Tri.ca ?_))
  rename_i b3 b6
  refine TL.f rfl rfl (ExF.build (vs := [.slice pv S.length cv, .int .i64 (out : Int)]) (l := [.slice pv S.length cv, .int .i64 (out : Int), .slice none 0 0]) rfl (fun w => by kernel_rfl)) ?_
  refine TL.ents (Ents.nilW (T := 3) (cI .i64)) ?_
  (repeat' (first | (show TL _ _ _ _ (_ :: _) _ _ _; first | refine TL.sa ?_ | (refine TL.na ?_; intro _)) | (first | refine Stp.h ?_ | refine Post.then_normal ?_ | refine Post.next ?_ | refine Post.block_other rfl ?_) | refine Tri.ca ?_))
  rename_i b7
  refine Tri.loop (ι := Nat × Value × List Int) (fun s => s.1 ≤ pN ∧ s.2.2.length = s.1 * out) (fun s => pN - s.1)
    (fun s => [(1, .slice pv S.length cv), (2, .int .i64 (out : Int)), (3, .pointer (some ⟨b3, 0, none⟩)), (6, .pointer (some ⟨b6, 0, none⟩)), (7, .pointer (some ⟨b7, 0, none⟩)), (8, .int .i64 (s.1 : Int))])
    (fun s => .cl b7 [.slice pv S.length cv, .int .i64 (out : Int), s.2.1] 46 :: .ow (cI .i64) 3 s.2.1 s.2.2 :: .cl b6 [.slice none 0 0, .int .i64 0, .slice none 0 0] 46 :: .cl b3 [sv, .int .u8 (ou : Int), vv, .bool sm] 44 :: As) (0, .slice none 0 0, []) ⟨Nat.zero_le _, by simp⟩ (by (exact Sub.au)) (by (exact Ents.au)) ?_
  rintro ⟨n, dv, D⟩ ⟨hn, hD⟩
  simp only at hn hD
  show Tri _ _ _ _ [(1, _), (2, _), (3, _), (6, _), (7, _), (8, .int .i64 (n : Int))] (.cl b7 [_, _, dv] _ :: .ow _ _ dv D :: _) _
  have hno : n * out ≤ pN * 4 := Nat.mul_le_mul hn ho
  (repeat' (first | (show TL _ _ _ _ (_ :: _) _ _ _; first | refine TL.sa ?_ | (refine TL.na ?_; intro _)) | (first | refine Stp.h ?_ | refine Post.then_normal ?_ | refine Post.next ?_ | refine Post.block_other rfl ?_) | refine Tri.ca ?_))
  refine TL.call rfl rfl rfl (pointsR_ok (S := S) hS hl) ?_
  rintro _ _ ⟨rfl, rfl⟩
  rw [hpN]
  (repeat' (first | (show TL _ _ _ _ (_ :: _) _ _ _; first | refine TL.sa ?_ | (refine TL.na ?_; intro _)) | (first | refine Stp.h ?_ | refine Post.then_normal ?_ | refine Post.next ?_ | refine Post.block_other rfl ?_) | refine Tri.ca ?_))
  ((show Tri _ _ _ (.cond _ _ _) _ _ _; first | refine Tri.condP rfl (fun hc => ?_) (fun hc => ?_) | refine Tri.condN rfl (fun hc => ?_) (fun hc => ?_)))
  · (repeat' (first | (show TL _ _ _ _ (_ :: _) _ _ _; first | refine TL.sa ?_ | (refine TL.na ?_; intro _)) | (first | refine Stp.h ?_ | refine Post.then_normal ?_ | refine Post.next ?_ | refine Post.block_other rfl ?_) | refine Tri.ca ?_))
    refine TL.call rfl rfl rfl (index10_ok (S := S) hS hl (n := (n : Int)) (by omega)) ?_
    rintro iv _ ⟨I, hI, hIx, rfl⟩
    (repeat' (first | (show TL _ _ _ _ (_ :: _) _ _ _; first | refine TL.sa ?_ | (refine TL.na ?_; intro _)) | (first | refine Stp.h ?_ | refine Post.then_normal ?_ | refine Post.next ?_ | refine Post.block_other rfl ?_) | refine Tri.ca ?_))
    refine Tri.loop (ι := Nat × Value × List Int) (fun s => s.1 ≤ out ∧ s.2.2.length = n * out + s.1) (fun s => out - s.1)
      (fun s => [(1, .slice pv S.length cv), (2, .int .i64 (out : Int)), (3, .pointer (some ⟨b3, 0, none⟩)), (6, .pointer (some ⟨b6, 0, none⟩)), (7, .pointer (some ⟨b7, 0, none⟩)), (8, .int .i64 (n : Int)), (9, iv), (10, .int .i64 (s.1 : Int))])
      (fun s => .ow (cI .i64) 3 iv I :: .cl b7 [.slice pv S.length cv, .int .i64 (out : Int), s.2.1] 46 :: .ow (cI .i64) 3 s.2.1 s.2.2 :: .cl b6 [.slice none 0 0, .int .i64 0, .slice none 0 0] 46 :: .cl b3 [sv, .int .u8 (ou : Int), vv, .bool sm] 44 :: As) (0, dv, D) ⟨Nat.zero_le _, hD⟩ (by (exact Sub.au)) (by (exact Ents.au)) ?_
    rintro ⟨k, ev, E⟩ ⟨hk, hE⟩
    simp only at hk hE
    show Tri _ _ _ _ [(1, _), (2, _), (3, _), (6, _), (7, _), (8, _), (9, _), (10, .int .i64 (k : Int))] (_ :: .cl b7 [_, _, ev] _ :: .ow _ _ ev E :: _) _
    (repeat' (first | (show TL _ _ _ _ (_ :: _) _ _ _; first | refine TL.sa ?_ | (refine TL.na ?_; intro _)) | (first | refine Stp.h ?_ | refine Post.then_normal ?_ | refine Post.next ?_ | refine Post.block_other rfl ?_) | refine Tri.ca ?_))
    ((show Tri _ _ _ (.cond _ _ _) _ _ _; first | refine Tri.condP rfl (fun hc => ?_) (fun hc => ?_) | refine Tri.condN rfl (fun hc => ?_) (fun hc => ?_)))
    · (repeat' (first | (show TL _ _ _ _ (_ :: _) _ _ _; first | refine TL.sa ?_ | (refine TL.na ?_; intro _)) | (first | refine Stp.h ?_ | refine Post.then_normal ?_ | refine Post.next ?_ | refine Post.block_other rfl ?_) | refine Tri.ca ?_))
      refine Tri.mid (fun e' As' => ∃ x : Int, (0 ≤ x ∧ x ≤ 65535) ∧ e' = [(1, .slice pv S.length cv), (2, .int .i64 (out : Int)), (3, .pointer (some ⟨b3, 0, none⟩)), (6, .pointer (some ⟨b6, 0, none⟩)), (7, .pointer (some ⟨b7, 0, none⟩)), (8, .int .i64 (n : Int)), (9, iv), (10, .int .i64 (k : Int)), (11, .int .i64 x)] ∧ As' = .ow (cI .i64) 3 iv I :: .cl b7 [.slice pv S.length cv, .int .i64 (out : Int), ev] 46 :: .ow (cI .i64) 3 ev E :: .cl b6 [.slice none 0 0, .int .i64 0, .slice none 0 0] 46 :: .cl b3 [sv, .int .u8 (ou : Int), vv, .bool sm] 44 :: As) ?_ ?_
      · ((show Tri _ _ _ (.cond _ _ _) _ _ _; first | refine Tri.condP rfl (fun hc => ?_) (fun hc => ?_) | refine Tri.condN rfl (fun hc => ?_) (fun hc => ?_)))
        · have hm := Nat.mod_lt (n * out + k) (show 0 < V.length by omega)
          obtain ⟨x, hx⟩ : ∃ x, V[(n * out + k) % V.length]? = some x := ⟨_, List.getElem?_eq_getElem hm⟩
          have hxr := hV x (List.mem_of_getElem? hx)
          have em : ((n : Int) * (out : Int) + (k : Int)) % (V.length : Int) = (((n * out + k) % V.length : Nat) : Int) := by push_cast; rfl
          generalize (n * out + k) % V.length = m at hm hx em
          refine Tri.dr (.take 0 (.take 1 (.take 2 (.take 3 (.take 4 (.take 5 (.take 6 (.take 7 (.take 8 (.take 9 (.take 10 (.take 11 (.take 12 (.take 13 (.take 14 (.done)))))))))))))))) ?_
          (repeat' (first | (show TL _ _ _ _ (_ :: _) _ _ _; first | refine TL.sa ?_ | (refine TL.na ?_; intro _)) | (first | refine Stp.h ?_ | refine Post.then_normal ?_ | refine Post.next ?_ | refine Post.block_other rfl ?_) | (show TT _ _ _ _ _ _ _ _ _; refine TT.sa ?_) | exact TTs.nil | refine TTs.cons ?_ ?_ | (show T1 _ _ _ _ _ _ _ _ _ _; first | refine T1.sa ?_ | (refine T1.na ?_; intro _)) | (show TC _ _ _ _ _ _ _ _ _ _; first | refine TC.goa ?_ | refine TC.fina ?_) | refine Tri.ca ?_))
          rw [em]
          (repeat' (first | (show TL _ _ _ _ (_ :: _) _ _ _; first | refine TL.sa ?_ | (refine TL.na ?_; intro _)) | (first | refine Stp.h ?_ | refine Post.then_normal ?_ | refine Post.next ?_ | refine Post.block_other rfl ?_) | (show TT _ _ _ _ _ _ _ _ _; refine TT.sa ?_) | exact TTs.nil | refine TTs.cons ?_ ?_ | (show T1 _ _ _ _ _ _ _ _ _ _; first | refine T1.sa ?_ | (refine T1.na ?_; intro _)) | (show TC _ _ _ _ _ _ _ _ _ _; first | refine TC.goa ?_ | refine TC.fina ?_) | refine Tri.ca ?_))
          exact Post.cut _ _ ⟨x, hxr, rfl, rfl⟩ (by (exact Sub.au)) (by (exact Ents.au))
        · (repeat' (first | (show TL _ _ _ _ (_ :: _) _ _ _; first | refine TL.sa ?_ | (refine TL.na ?_; intro _)) | (first | refine Stp.h ?_ | refine Post.then_normal ?_ | refine Post.next ?_ | refine Post.block_other rfl ?_) | (show TT _ _ _ _ _ _ _ _ _; refine TT.sa ?_) | exact TTs.nil | refine TTs.cons ?_ ?_ | (show T1 _ _ _ _ _ _ _ _ _ _; first | refine T1.sa ?_ | (refine T1.na ?_; intro _)) | (show TC _ _ _ _ _ _ _ _ _ _; first | refine TC.goa ?_ | refine TC.fina ?_) | refine Tri.ca ?_))
          exact Post.cut _ _ ⟨0, by omega, rfl, rfl⟩ (by (exact Sub.au)) (by (exact Ents.au))
      · rintro _ _ ⟨x, hxr, rfl, rfl⟩
        have hrnd : ∀ (ev' : Value) (w : Int), (E ++ [w]).length = n * out + (k + 1) := fun _ w => by rw [List.length_append, hE]; rfl
        cases sm
        · (repeat' (first | (show TL _ _ _ _ (_ :: _) _ _ _; first | refine TL.sa ?_ | (refine TL.na ?_; intro _)) | (first | refine Stp.h ?_ | refine Post.then_normal ?_ | refine Post.next ?_ | refine Post.block_other rfl ?_) | (show TT _ _ _ _ _ _ _ _ _; refine TT.sa ?_) | exact TTs.nil | refine TTs.cons ?_ ?_ | (show T1 _ _ _ _ _ _ _ _ _ _; first | refine T1.sa ?_ | (refine T1.na ?_; intro _)) | (show TC _ _ _ _ _ _ _ _ _ _; first | refine TC.goa ?_ | refine TC.fina ?_) | refine Tri.ca ?_))
          rename_i nv
          exact Post.round (k + 1, nv, E ++ [x]) ⟨by simp only; omega, hrnd nv x⟩ (by simp only; omega) (by (exact Sub.au)) (by (exact Ents.au))
        · have hm := Nat.mod_lt k (show 0 < S.length by omega)
          obtain ⟨y, hy⟩ : ∃ y, I[k % S.length]? = some y := ⟨_, List.getElem?_eq_getElem (by omega)⟩
          obtain ⟨z, hz⟩ : ∃ z, S[k % S.length]? = some z := ⟨_, List.getElem?_eq_getElem (by omega)⟩
          obtain ⟨y0, y8⟩ := hIx y (List.mem_of_getElem? hy)
          obtain ⟨z2, z9⟩ := hS z (List.mem_of_getElem? hz)
          have ei : (k : Int) % (S.length : Int) = ((k % S.length : Nat) : Int) := by push_cast; rfl
          have d0 : 0 ≤ 60000 * y / (z - 1) := Int.ediv_nonneg (by omega) (by omega)
          have d1 : 60000 * y / (z - 1) ≤ 60000 * y := Int.ediv_le_self _ (by omega)
          (repeat' (first | (show TL _ _ _ _ (_ :: _) _ _ _; first | refine TL.sa ?_ | (refine TL.na ?_; intro _)) | (first | refine Stp.h ?_ | refine Post.then_normal ?_ | refine Post.next ?_ | refine Post.block_other rfl ?_) | refine Tri.ca ?_))
          rw [ei]
          generalize k % S.length = m at hm hy hz ei
          refine Tri.dr (.take 0 (.take 1 (.take 2 (.take 3 (.take 4 (.take 5 (.take 6 (.take 7 (.take 8 (.take 9 (.take 10 (.take 11 (.take 12 (.take 13 (.take 14 (.done)))))))))))))))) ?_
          (repeat' (first | (show TL _ _ _ _ (_ :: _) _ _ _; first | refine TL.sa ?_ | (refine TL.na ?_; intro _)) | (first | refine Stp.h ?_ | refine Post.then_normal ?_ | refine Post.next ?_ | refine Post.block_other rfl ?_) | (show TT _ _ _ _ _ _ _ _ _; refine TT.sa ?_) | exact TTs.nil | refine TTs.cons ?_ ?_ | (show T1 _ _ _ _ _ _ _ _ _ _; first | refine T1.sa ?_ | (refine T1.na ?_; intro _)) | (show TC _ _ _ _ _ _ _ _ _ _; first | refine TC.goa ?_ | refine TC.fina ?_) | refine Tri.ca ?_))
          rename_i nv
          exact Post.round (k + 1, nv, E ++ [60000 * y / (z - 1) + x % 5000]) ⟨by simp only; omega, hrnd nv _⟩ (by simp only; omega) (by (exact Sub.au)) (by (exact Ents.au))
    · (repeat' (first | (show TL _ _ _ _ (_ :: _) _ _ _; first | refine TL.sa ?_ | (refine TL.na ?_; intro _)) | (first | refine Stp.h ?_ | refine Post.then_normal ?_ | refine Post.next ?_ | refine Post.block_other rfl ?_) | (show TT _ _ _ _ _ _ _ _ _; refine TT.sa ?_) | exact TTs.nil | refine TTs.cons ?_ ?_ | (show T1 _ _ _ _ _ _ _ _ _ _; first | refine T1.sa ?_ | (refine T1.na ?_; intro _)) | (show TC _ _ _ _ _ _ _ _ _ _; first | refine TC.goa ?_ | refine TC.fina ?_) | refine Tri.ca ?_))
      refine Post.round (n + 1, ev, E) ⟨by simp only; omega, by simp only; rw [hE, Nat.succ_mul]; omega⟩ (by simp only; omega) (by (exact Sub.au)) (by (exact Ents.au))
  · refine Tri.rdSl (c := cI .i64) (xs := D) dv ?_
    rintro dp dc rfl
    (repeat' (first | (show TL _ _ _ _ (_ :: _) _ _ _; first | refine TL.sa ?_ | (refine TL.na ?_; intro _)) | (first | refine Stp.h ?_ | refine Post.then_normal ?_ | refine Post.next ?_ | refine Post.block_other rfl ?_) | (show TT _ _ _ _ _ _ _ _ _; refine TT.sa ?_) | exact TTs.nil | refine TTs.cons ?_ ?_ | (show T1 _ _ _ _ _ _ _ _ _ _; first | refine T1.sa ?_ | (refine T1.na ?_; intro _)) | (show TC _ _ _ _ _ _ _ _ _ _; first | refine TC.goa ?_ | refine TC.fina ?_) | refine Tri.ca ?_))
    (refine Post.ra ?_)
    exact ⟨_, ⟨_, D, by omega, rfl, rfl⟩, by (exact Ents.au)⟩
/-- some grid comes back -/
def AnyG (As : List Ent) (u : Value) (Bs : List Ent) : Prop := ∃ (p : Option Addr) (c : Nat) (p' : Option Addr) (c' : Nat) (S D : List Int) (out : Int), S.length ≤ 4 ∧ D.length ≤ 100000 ∧ u = .agg #[.slice p S.length c, .int .i64 out, .slice p' D.length c'] ∧ Bs = .ow (cI .i64) 3 (.slice p' D.length c') D :: .ow (cI .i64) 3 (.slice p S.length c) S :: As
set_option maxRecDepth 100000 in
set_option maxHeartbeats 8000000 in
theorem grid10_ok (d : G10A) (hd : d.ok) [hs : RdIn As d.sv Int (cI .u8) d.S] [hv : RdIn As d.vv Int (cI .u16) d.V] :
    CallsS Tryz.prog w0 15 [.agg d.cells.toArray] As (AnyG As) := by
  have hd0 := hd
  obtain ⟨sv, ou, vv, sm, S0, V⟩ := d
  obtain ⟨hou, hS, hV, hSl, hVl⟩ := hd
  simp only at hou hS hV hSl hVl hs hv
  refine CallsS.rdOne sv fun hv1 => CallsS.rdOne vv fun hv2 => ?_
  refine CallsS.of_tri Tryz.func15 rfl Tryz.ntmps15 rfl ?_
  simp only [G10A.cells]
  (repeat' (first | (show TL _ _ _ _ (_ :: _) _ _ _; first | refine TL.sa ?_ | (refine TL.na ?_; intro _)) | (first | refine Stp.h ?_ | refine Post.then_normal ?_ | refine Post.next ?_ | refine Post.block_other rfl ?_) | refine Tri.ca ?_))
  rename_i b1 b2
  refine Tri.ents (Ents.nilW (T := 3) (cI .i64)) ?_
  refine Tri.loop (ι := Nat × Value × List Int) (fun s => s.1 ≤ 3 ∧ s.1 ≤ S0.length ∧ s.2.2.length = s.1 ∧ ∀ x ∈ s.2.2, 2 ≤ x ∧ x ≤ 9) (fun s => 3 - s.1)
    (fun s => [(1, .pointer (some ⟨b1, 0, none⟩)), (2, .pointer (some ⟨b2, 0, none⟩)), (3, s.2.1), (4, .int .i64 (s.1 : Int))])
    (fun s => .ow (cI .i64) 3 s.2.1 s.2.2 :: .cl b2 [.slice none 0 0, .int .i64 0, .slice none 0 0] 46 :: .cl b1 [sv, .int .u8 (ou : Int), vv, .bool sm] 44 :: As) (0, .slice none 0 0, []) ⟨by decide, Nat.zero_le _, rfl, fun _ h => by simp at h⟩ (by (exact Sub.au)) (by (exact Ents.au)) ?_
  rintro ⟨i, zv, Z⟩ ⟨hi3, hi, hZ, hZx⟩
  simp only at hi3 hi hZ hZx
  show Tri _ _ _ _ [(1, _), (2, _), (3, zv), (4, .int .i64 (i : Int))] (.ow _ _ zv Z :: _) _
  have eo : (1 : Int) + (ou : Int) % 3 = ((ou % 3 + 1 : Nat) : Int) := by omega
  (repeat' (first | (show TL _ _ _ _ (_ :: _) _ _ _; first | refine TL.sa ?_ | (refine TL.na ?_; intro _)) | (first | refine Stp.h ?_ | refine Post.then_normal ?_ | refine Post.next ?_ | refine Post.block_other rfl ?_) | refine Tri.ca ?_))
  (first | refine TL.gsplit rfl rfl (fun hgs => ?_) (fun hgs => ?_) | refine TL.gsplitN rfl rfl (fun hgs => ?_) (fun hgs => ?_) | refine TT.gsplit rfl rfl rfl (fun hgs => ?_) (fun hgs => ?_) | refine TT.gsplitN rfl rfl rfl (fun hgs => ?_) (fun hgs => ?_))
  · (repeat' (first | (show TL _ _ _ _ (_ :: _) _ _ _; first | refine TL.sa ?_ | (refine TL.na ?_; intro _)) | (first | refine Stp.h ?_ | refine Post.then_normal ?_ | refine Post.next ?_ | refine Post.block_other rfl ?_) | refine Tri.ca ?_))
    ((show Tri _ _ _ (.cond _ _ _) _ _ _; first | refine Tri.condP rfl (fun hc => ?_) (fun hc => ?_) | refine Tri.condN rfl (fun hc => ?_) (fun hc => ?_)))
    · obtain ⟨x, hx⟩ : ∃ x, S0[i]? = some x := ⟨_, List.getElem?_eq_getElem (by omega)⟩
      have hxr := hS x (List.mem_of_getElem? hx)
      (repeat' (first | (show TL _ _ _ _ (_ :: _) _ _ _; first | refine TL.sa ?_ | (refine TL.na ?_; intro _)) | (first | refine Stp.h ?_ | refine Post.then_normal ?_ | refine Post.next ?_ | refine Post.block_other rfl ?_) | refine Tri.ca ?_))
      rename_i nv
      exact Post.round (i + 1, nv, Z ++ [2 + x % 3]) ⟨by simp only; omega, by simp only; omega, by simp only [List.length_append, hZ]; rfl, fun y hy => by
        simp only at hy
        rcases List.mem_append.1 hy with h | h
        · exact hZx y h
        · simp only [List.mem_cons, List.not_mem_nil, or_false] at h
          omega⟩ (by simp only; omega) (by (exact Sub.au)) (by (exact Ents.au))
    · (repeat' (first | (show TL _ _ _ _ (_ :: _) _ _ _; first | refine TL.sa ?_ | (refine TL.na ?_; intro _)) | (first | refine Stp.h ?_ | refine Post.then_normal ?_ | refine Post.next ?_ | refine Post.block_other rfl ?_) | refine Tri.ca ?_))
      refine TL.rdSl (c := cI .i64) (xs := Z) zv ?_
      rintro zp zc rfl
      (repeat' (first | (show TL _ _ _ _ (_ :: _) _ _ _; first | refine TL.sa ?_ | (refine TL.na ?_; intro _)) | (first | refine Stp.h ?_ | refine Post.then_normal ?_ | refine Post.next ?_ | refine Post.block_other rfl ?_) | refine Tri.ca ?_))
      rw [eo]
      refine TL.callv rfl rfl rfl rfl (made10_ok ⟨sv, ou, vv, sm, S0, V⟩ hd0 (v := .slice zp Z.length zc) (S := Z) (out := ou % 3 + 1) hv1 hZx (by omega) (by omega) (by omega)) ?_
      rintro _ _ ⟨dv, D, hDl, rfl, rfl⟩
      refine TL.rdSl (c := cI .i64) (xs := D) dv ?_
      rintro dp dc rfl
      (repeat' (first | (show TL _ _ _ _ (_ :: _) _ _ _; first | refine TL.sa ?_ | (refine TL.na ?_; intro _)) | (first | refine Stp.h ?_ | refine Post.then_normal ?_ | refine Post.next ?_ | refine Post.block_other rfl ?_) | refine Tri.ca ?_))
      (refine Post.ra ?_)
      exact ⟨_, ⟨_, _, _, _, Z, D, _, by omega, hDl, rfl, rfl⟩, by (exact Ents.au)⟩
  · (repeat' (first | (show TL _ _ _ _ (_ :: _) _ _ _; first | refine TL.sa ?_ | (refine TL.na ?_; intro _)) | (first | refine Stp.h ?_ | refine Post.then_normal ?_ | refine Post.next ?_ | refine Post.block_other rfl ?_) | refine Tri.ca ?_))
    by_cases hz0 : Z.length = 0
    · (repeat' (first | (show TL _ _ _ _ (_ :: _) _ _ _; first | refine TL.sa ?_ | (refine TL.na ?_; intro _)) | (first | refine Stp.h ?_ | refine Post.then_normal ?_ | refine Post.next ?_ | refine Post.block_other rfl ?_) | refine Tri.ca ?_))
      rename_i s2
      refine TL.ents (Ents.clW (cI .i64) [2] rfl (n := 1) (cap := 1) rfl rfl) ?_
      rw [eo]
      refine TL.callv rfl rfl rfl rfl (made10_ok ⟨sv, ou, vv, sm, S0, V⟩ hd0 (v := .slice (some ⟨s2, 0, none⟩) 1 1) (S := [2]) (out := ou % 3 + 1) hv1 (by simp) (by simp) (by simp) (by omega)) ?_
      rintro _ _ ⟨dv, D, hDl, rfl, rfl⟩
      refine TL.rdSl (c := cI .i64) (xs := D) dv ?_
      rintro dp dc rfl
      (repeat' (first | (show TL _ _ _ _ (_ :: _) _ _ _; first | refine TL.sa ?_ | (refine TL.na ?_; intro _)) | (first | refine Stp.h ?_ | refine Post.then_normal ?_ | refine Post.next ?_ | refine Post.block_other rfl ?_) | refine Tri.ca ?_))
      (refine Post.ra ?_)
      exact ⟨_, ⟨some ⟨s2, 0, none⟩, 1, _, _, [2], D, _, by simp, hDl, rfl, rfl⟩, by (exact Ents.au)⟩
    · refine Tri.rdSl (c := cI .i64) (xs := Z) zv ?_
      rintro zp zc rfl
      (repeat' (first | (show TL _ _ _ _ (_ :: _) _ _ _; first | refine TL.sa ?_ | (refine TL.na ?_; intro _)) | (first | refine Stp.h ?_ | refine Post.then_normal ?_ | refine Post.next ?_ | refine Post.block_other rfl ?_) | refine Tri.ca ?_))
      rw [eo]
      refine TL.callv rfl rfl rfl rfl (made10_ok ⟨sv, ou, vv, sm, S0, V⟩ hd0 (v := .slice zp Z.length zc) (S := Z) (out := ou % 3 + 1) hv1 hZx (by omega) (by omega) (by omega)) ?_
      rintro _ _ ⟨dv, D, hDl, rfl, rfl⟩
      refine TL.rdSl (c := cI .i64) (xs := D) dv ?_
      rintro dp dc rfl
      (repeat' (first | (show TL _ _ _ _ (_ :: _) _ _ _; first | refine TL.sa ?_ | (refine TL.na ?_; intro _)) | (first | refine Stp.h ?_ | refine Post.then_normal ?_ | refine Post.next ?_ | refine Post.block_other rfl ?_) | refine Tri.ca ?_))
      (refine Post.ra ?_)
      exact ⟨_, ⟨_, _, _, _, Z, D, _, by omega, hDl, rfl, rfl⟩, by (exact Ents.au)⟩
end Go.Proofs.YtjpghlljcibcjaaGreatDoor
namespace Go.Proofs.YtjpghlljcibcjaaGreatDoor
open Go Go.Sx
variable {w0 : World} {As : List Ent}
set_option maxRecDepth 100000 in
set_option maxHeartbeats 8000000 in
theorem three10_ok (d : G10A) (hd : d.ok) [hs : RdIn As d.sv Int (cI .u8) d.S] [hv : RdIn As d.vv Int (cI .u16) d.V] :
    CallsS Tryz.prog w0 16 [.agg d.cells.toArray] As (AnyG As) := by
  have hd0 := hd
  obtain ⟨sv, ou, vv, sm, S0, V⟩ := d
  obtain ⟨hou, hS, hV, hSl, hVl⟩ := hd
  simp only at hou hS hV hSl hVl hs hv
  refine CallsS.rdOne sv fun hv1 => CallsS.rdOne vv fun hv2 => ?_
  refine CallsS.of_tri Tryz.func16 rfl Tryz.ntmps16 rfl ?_
  simp only [G10A.cells]
  (repeat' (first | (show TL _ _ _ _ (_ :: _) _ _ _; first | refine TL.sa ?_ | (refine TL.na ?_; intro _)) | (first | refine Stp.h ?_ | refine Post.then_normal ?_ | refine Post.next ?_ | refine Post.block_other rfl ?_) | refine Tri.ca ?_))
  rename_i b1 b2 bz
  refine Tri.ents (Ents.clW (cI .i64) [2, 2, 2] rfl (n := 3) (cap := 3) rfl rfl) ?_
  refine Tri.loop (ι := Nat × List Int) (fun s => s.1 ≤ 3 ∧ s.1 ≤ S0.length ∧ s.2.length = 3 ∧ ∀ x ∈ s.2, 2 ≤ x ∧ x ≤ 9) (fun s => 3 - s.1)
    (fun s => [(1, .pointer (some ⟨b1, 0, none⟩)), (2, .pointer (some ⟨b2, 0, none⟩)), (3, .slice (some ⟨bz, 0, none⟩) 3 3), (4, .int .i64 (s.1 : Int))])
    (fun s => .ow (cI .i64) 3 (.slice (some ⟨bz, 0, none⟩) 3 3) s.2 :: .cl b2 [.slice none 0 0, .int .i64 0, .slice none 0 0] 46 :: .cl b1 [sv, .int .u8 (ou : Int), vv, .bool sm] 44 :: As) (0, [2, 2, 2]) ⟨by decide, Nat.zero_le _, rfl, by decide⟩ (by (exact Sub.au)) (by (exact Ents.au)) ?_
  rintro ⟨i, Z⟩ ⟨hi3, hi, hZ, hZx⟩
  simp only at hi3 hi hZ hZx
  show Tri _ _ _ _ [(1, _), (2, _), (3, _), (4, .int .i64 (i : Int))] (.ow _ _ _ Z :: _) _
  (repeat' (first | (show TL _ _ _ _ (_ :: _) _ _ _; first | refine TL.sa ?_ | (refine TL.na ?_; intro _)) | (first | refine Stp.h ?_ | refine Post.then_normal ?_ | refine Post.next ?_ | refine Post.block_other rfl ?_) | refine Tri.ca ?_))
  (first | refine TL.gsplit rfl rfl (fun hgs => ?_) (fun hgs => ?_) | refine TL.gsplitN rfl rfl (fun hgs => ?_) (fun hgs => ?_) | refine TT.gsplit rfl rfl rfl (fun hgs => ?_) (fun hgs => ?_) | refine TT.gsplitN rfl rfl rfl (fun hgs => ?_) (fun hgs => ?_))
  · (repeat' (first | (show TL _ _ _ _ (_ :: _) _ _ _; first | refine TL.sa ?_ | (refine TL.na ?_; intro _)) | (first | refine Stp.h ?_ | refine Post.then_normal ?_ | refine Post.next ?_ | refine Post.block_other rfl ?_) | refine Tri.ca ?_))
    ((show Tri _ _ _ (.cond _ _ _) _ _ _; first | refine Tri.condP rfl (fun hc => ?_) (fun hc => ?_) | refine Tri.condN rfl (fun hc => ?_) (fun hc => ?_)))
    · obtain ⟨x, hx⟩ : ∃ x, S0[i]? = some x := ⟨_, List.getElem?_eq_getElem (by omega)⟩
      have hxr := hS x (List.mem_of_getElem? hx)
      (repeat' (first | (show TL _ _ _ _ (_ :: _) _ _ _; first | refine TL.sa ?_ | (refine TL.na ?_; intro _)) | (first | refine Stp.h ?_ | refine Post.then_normal ?_ | refine Post.next ?_ | refine Post.block_other rfl ?_) | refine Tri.ca ?_))
      exact Post.round (i + 1, Z.set i (2 + x % 2)) ⟨by simp only; omega, by simp only; omega, by simp only [List.length_set]; exact hZ, fun y hy => by
        simp only at hy
        rcases List.mem_or_eq_of_mem_set hy with h | h
        · exact hZx y h
        · omega⟩ (by simp only; omega) (by (exact Sub.au)) (by (exact Ents.au))
    · (repeat' (first | (show TL _ _ _ _ (_ :: _) _ _ _; first | refine TL.sa ?_ | (refine TL.na ?_; intro _)) | (first | refine Stp.h ?_ | refine Post.then_normal ?_ | refine Post.next ?_ | refine Post.block_other rfl ?_) | refine Tri.ca ?_))
      refine TL.callv rfl rfl rfl rfl (made10_ok ⟨sv, ou, vv, sm, S0, V⟩ hd0 (v := .slice (some ⟨bz, 0, none⟩) 3 3) (S := Z) (out := 3) hv1 hZx (by omega) (by omega) (by omega)) ?_
      rintro _ _ ⟨dv, D, hDl, rfl, rfl⟩
      refine TL.rdSl (c := cI .i64) (xs := D) dv ?_
      rintro dp dc rfl
      (repeat' (first | (show TL _ _ _ _ (_ :: _) _ _ _; first | refine TL.sa ?_ | (refine TL.na ?_; intro _)) | (first | refine Stp.h ?_ | refine Post.then_normal ?_ | refine Post.next ?_ | refine Post.block_other rfl ?_) | refine Tri.ca ?_))
      (refine Post.ra ?_)
      exact ⟨_, ⟨some ⟨bz, 0, none⟩, 3, _, _, Z, D, _, by omega, hDl, by rw [hZ], by rw [hZ]⟩, by (exact Ents.au)⟩
  · (repeat' (first | (show TL _ _ _ _ (_ :: _) _ _ _; first | refine TL.sa ?_ | (refine TL.na ?_; intro _)) | (first | refine Stp.h ?_ | refine Post.then_normal ?_ | refine Post.next ?_ | refine Post.block_other rfl ?_) | refine Tri.ca ?_))
    refine TL.callv rfl rfl rfl rfl (made10_ok ⟨sv, ou, vv, sm, S0, V⟩ hd0 (v := .slice (some ⟨bz, 0, none⟩) 3 3) (S := Z) (out := 3) hv1 hZx (by omega) (by omega) (by omega)) ?_
    rintro _ _ ⟨dv, D, hDl, rfl, rfl⟩
    refine TL.rdSl (c := cI .i64) (xs := D) dv ?_
    rintro dp dc rfl
    (repeat' (first | (show TL _ _ _ _ (_ :: _) _ _ _; first | refine TL.sa ?_ | (refine TL.na ?_; intro _)) | (first | refine Stp.h ?_ | refine Post.then_normal ?_ | refine Post.next ?_ | refine Post.block_other rfl ?_) | refine Tri.ca ?_))
    (refine Post.ra ?_)
    exact ⟨_, ⟨some ⟨bz, 0, none⟩, 3, _, _, Z, D, _, by omega, hDl, by rw [hZ], by rw [hZ]⟩, by (exact Ents.au)⟩
end Go.Proofs.YtjpghlljcibcjaaGreatDoor
