/- Walks: shells: the reference's sides. Walks: shells: the reference's shell. -/
import Derived.Test.YtjpghlljcibcjaaGreatDoorSw3
import Derived.Test.YtjpghlljcibcjaaGreatDoorSw7
import Derived.Test.YtjpghlljcibcjaaGreatDoorMra
import Derived.Test.YtjpghlljcibcjaaGreatDoorVbs
namespace Go.Proofs.YtjpghlljcibcjaaGreatDoor
open Go Go.Sx
variable {w0 : World} {As : List Ent}
theorem indexRef_ok {lv : Value} {L : List V3} {x : V3} [hr : RdIn As lv V3 cV3 L] (hl : L.length ≤ 1000000000) (hn : L.Nodup) (hx : x ∈ L) :
    CallsS Tryz.prog w0 62 [lv, x.val] As fun u Bs => u = .int .i64 (posN L x : Int) ∧ Bs = As := by
  obtain ⟨hpx, hplt⟩ := posN_mem hn hx
  refine CallsS.of_tri Tryz.func62 rfl Tryz.ntmps62 rfl ?_
  (repeat' (first | (show TL _ _ _ _ (_ :: _) _ _ _; first | refine TL.sa ?_ | (refine TL.na ?_; intro _)) | (first | refine Stp.h ?_ | refine Post.then_normal ?_ | refine Post.next ?_ | refine Post.block_other rfl ?_) | refine Tri.ca ?_))
  rename_i b3
  refine Tri.loop (ι := Nat) (fun k => k ≤ posN L x) (fun k => L.length - k) (fun k => [(0, lv), (3, .pointer (some ⟨b3, 0, none⟩)), (5, .int .i64 (k : Int))]) (fun _ => .cl b3 [.int .i64 x.x, .int .i64 x.y, .int .i64 x.z] 27 :: As) 0 (Nat.zero_le _) (by (exact Sub.au)) (by (exact Ents.au)) ?_
  intro k hk
  obtain ⟨y, hy⟩ : ∃ y, L[k]? = some y := ⟨_, List.getElem?_eq_getElem (by omega)⟩
  (repeat' (first | (show TL _ _ _ _ (_ :: _) _ _ _; first | refine TL.sa ?_ | (refine TL.na ?_; intro _)) | (first | refine Stp.h ?_ | refine Post.then_normal ?_ | refine Post.next ?_ | refine Post.block_other rfl ?_) | refine Tri.ca ?_))
  refine Tri.dr (.take 0 (.take 1 (.take 2 (.take 3 (.take 4 (.take 5 (.done))))))) ?_
  (repeat' (first | (show TL _ _ _ _ (_ :: _) _ _ _; first | refine TL.sa ?_ | (refine TL.na ?_; intro _)) | (first | refine Stp.h ?_ | refine Post.then_normal ?_ | refine Post.next ?_ | refine Post.block_other rfl ?_) | (show TT _ _ _ _ _ _ _ _ _; refine TT.sa ?_) | exact TTs.nil | refine TTs.cons ?_ ?_ | (show T1 _ _ _ _ _ _ _ _ _ _; first | refine T1.sa ?_ | (refine T1.na ?_; intro _)) | (show TC _ _ _ _ _ _ _ _ _ _; first | refine TC.goa ?_ | refine TC.fina ?_) | refine Tri.ca ?_))
  ((show Tri _ _ _ (.cond _ _ _) _ _ _; first | refine Tri.condP rfl (fun hc => ?_) (fun hc => ?_) | refine Tri.condN rfl (fun hc => ?_) (fun hc => ?_)))
  · have hyx : y = x := hc
    have e : posN L x = k := posN_eq hn (by rw [hy, hyx])
    rw [e]
    (repeat' (first | (show TL _ _ _ _ (_ :: _) _ _ _; first | refine TL.sa ?_ | (refine TL.na ?_; intro _)) | (first | refine Stp.h ?_ | refine Post.then_normal ?_ | refine Post.next ?_ | refine Post.block_other rfl ?_) | (show TT _ _ _ _ _ _ _ _ _; refine TT.sa ?_) | exact TTs.nil | refine TTs.cons ?_ ?_ | (show T1 _ _ _ _ _ _ _ _ _ _; first | refine T1.sa ?_ | (refine T1.na ?_; intro _)) | (show TC _ _ _ _ _ _ _ _ _ _; first | refine TC.goa ?_ | refine TC.fina ?_) | refine Tri.ca ?_))
    (refine Post.ra ?_)
    exact ⟨_, ⟨rfl, rfl⟩, by (exact Ents.au)⟩
  · (repeat' (first | (show TL _ _ _ _ (_ :: _) _ _ _; first | refine TL.sa ?_ | (refine TL.na ?_; intro _)) | (first | refine Stp.h ?_ | refine Post.then_normal ?_ | refine Post.next ?_ | refine Post.block_other rfl ?_) | (show TT _ _ _ _ _ _ _ _ _; refine TT.sa ?_) | exact TTs.nil | refine TTs.cons ?_ ?_ | (show T1 _ _ _ _ _ _ _ _ _ _; first | refine T1.sa ?_ | (refine T1.na ?_; intro _)) | (show TC _ _ _ _ _ _ _ _ _ _; first | refine TC.goa ?_ | refine TC.fina ?_) | refine Tri.ca ?_))
    refine Post.round (k + 1) ?_ (by omega) (by (exact Sub.au)) (by (exact Ents.au))
    rcases Nat.lt_or_ge k (posN L x) with h | h
    · omega
    · have : k = posN L x := by omega
      subst this
      rw [hpx] at hy
      cases hy
      exact absurd (show (⟨x.x, x.y, x.z⟩ : V3) = ⟨x.x, x.y, x.z⟩ from rfl) hc
set_option maxRecDepth 100000 in
set_option maxHeartbeats 4000000 in
theorem sideRef0_ok {lv : Value} {a b c en : Nat} [hr : RdIn As lv V3 cV3 (nodesF a b c)] (hen : en < 2) (ha : 2 ≤ a) (ha9 : a ≤ 9) (hb : 2 ≤ b) (hb9 : b ≤ 9) (hc' : 2 ≤ c) (hc9 : c ≤ 9) (h300 : (nodesF a b c).length ≤ 300) :
    CallsS Tryz.prog w0 37 [lv, .agg #[.int .i64 (a : Int), .int .i64 (b : Int), .int .i64 (c : Int)], .int .i64 0, .int .i64 ((en * (a - 1) : Nat) : Int)] As fun q Bs => Bs = .ow cV3 27 q (sideF a b c 0 en) :: As := by
  have hn : (nodesF a b c).Nodup := nodes_nodup a b c (a * b * c)
  have hmem : ∀ u v : Nat, u < b → v < c → (nodeAt 0 (en * (a - 1)) u v) ∈ nodesF a b c := fun u v hu hv => corner_mem (ax := 0) (by omega) hen ha hb hc' hu hv
  have hfw : fwdS 0 en = (decide (0 < en * (a - 1)) != decide (0 = 1)) := by
    have : en = 0 ∨ en = 1 := by omega
    rcases this with rfl | rfl
    · simp [fwdS]
    · have : 0 < 1 * (a - 1) := by omega
      simp [fwdS]; omega
  have hsF : sideF a b c 0 en = sideP (nodesF a b c) 0 (en * (a - 1)) (fwdS 0 en) (c - 1) ((b - 1) * (c - 1)) := rfl
  have he9 : en * (a - 1) ≤ 9 := by
    have := Nat.mul_le_mul (show en ≤ 1 by omega) (show a - 1 ≤ 9 by omega)
    omega
  generalize hee : en * (a - 1) = e at hmem hfw hsF he9 ⊢
  generalize hL : nodesF a b c = L at hn hmem hsF h300 hr
  generalize hF : fwdS 0 en = fw at hfw hsF
  refine CallsS.of_tri Tryz.func37 rfl Tryz.ntmps37 rfl ?_
  have h11 : (!decide (decide ((0 : Int) < (e : Int)) = decide ((0 : Int) = 1))) = fw := by
    rw [hfw]
    by_cases h : 0 < e <;> simp [h]
  (repeat' (first | (show TL _ _ _ _ (_ :: _) _ _ _; first | refine TL.sa ?_ | (refine TL.na ?_; intro _)) | (first | refine Stp.h ?_ | refine Post.then_normal ?_ | refine Post.next ?_ | refine Post.block_other rfl ?_) | refine Tri.ca ?_))
  rw [h11]
  clear hfw h11
  rename_i b5
  generalize hnu : b - 1 = nu at hsF
  generalize hnv : c - 1 = nv at hsF
  refine Tri.ents (Ents.nilW (T := 27) cV3) ?_
  refine Tri.loop (ι := Nat × Value) (fun s => s.1 ≤ nu) (fun s => nu - s.1) (fun s => [(0, lv), (2, .int .i64 0), (3, .int .i64 (e : Int)), (5, .pointer (some ⟨b5, 0, none⟩)), (9, .int .i64 1), (10, .int .i64 2), (11, .bool fw), (12, s.2), (13, .int .i64 (s.1 : Int))])
    (fun s => .ow cV3 27 s.2 (sideP L 0 e fw nv (s.1 * nv)) :: .cl b5 [.int .i64 (a : Int), .int .i64 (b : Int), .int .i64 (c : Int)] 27 :: As) (0, .slice none 0 0) (Nat.zero_le _) (by (exact Sub.au)) (by simp only [Nat.zero_mul, sideP, List.range_zero, List.flatMap_nil]; (exact Ents.au)) ?_
  rintro ⟨u, fv⟩ hu
  simp only at hu
  have hl1 : (sideP L 0 e fw nv (u * nv)).length ≤ 2000 := by
    rw [sideP_len]
    have := Nat.mul_le_mul (show u ≤ 8 by omega) (show nv ≤ 8 by omega)
    omega
  show Tri _ _ _ _ [(0, _), (2, _), (3, _), (5, _), (9, _), (10, _), (11, _), (12, fv), (13, .int .i64 (u : Int))] (.ow cV3 _ fv _ :: _) _
  (repeat' (first | (show TL _ _ _ _ (_ :: _) _ _ _; first | refine TL.sa ?_ | (refine TL.na ?_; intro _)) | (first | refine Stp.h ?_ | refine Post.then_normal ?_ | refine Post.next ?_ | refine Post.block_other rfl ?_) | refine Tri.ca ?_))
  ((show Tri _ _ _ (.cond _ _ _) _ _ _; first | refine Tri.condP rfl (fun hc => ?_) (fun hc => ?_) | refine Tri.condN rfl (fun hc => ?_) (fun hc => ?_)))
  · (repeat' (first | (show TL _ _ _ _ (_ :: _) _ _ _; first | refine TL.sa ?_ | (refine TL.na ?_; intro _)) | (first | refine Stp.h ?_ | refine Post.then_normal ?_ | refine Post.next ?_ | refine Post.block_other rfl ?_) | refine Tri.ca ?_))
    refine Tri.loop (ι := Nat × Value) (fun s => s.1 ≤ nv) (fun s => nv - s.1) (fun s => [(0, lv), (2, .int .i64 0), (3, .int .i64 (e : Int)), (5, .pointer (some ⟨b5, 0, none⟩)), (9, .int .i64 1), (10, .int .i64 2), (11, .bool fw), (12, s.2), (13, .int .i64 (u : Int)), (14, .int .i64 (s.1 : Int))])
      (fun s => .ow cV3 27 s.2 (sideP L 0 e fw nv (u * nv + s.1)) :: .cl b5 [.int .i64 (a : Int), .int .i64 (b : Int), .int .i64 (c : Int)] 27 :: As) (0, fv) (Nat.zero_le _) (by (exact Sub.au)) (by simp only [Nat.add_zero]; (exact Ents.au)) ?_
    rintro ⟨v, gv⟩ hv
    simp only at hv
    have hl2 : (sideP L 0 e fw nv (u * nv + v)).length ≤ 2000 := by
      rw [sideP_len]
      have := Nat.mul_le_mul (show u ≤ 8 by omega) (show nv ≤ 8 by omega)
      omega
    show Tri _ _ _ _ [(0, _), (2, _), (3, _), (5, _), (9, _), (10, _), (11, _), (12, gv), (13, .int .i64 (u : Int)), (14, .int .i64 (v : Int))] (.ow cV3 _ gv _ :: _) _
    (repeat' (first | (show TL _ _ _ _ (_ :: _) _ _ _; first | refine TL.sa ?_ | (refine TL.na ?_; intro _)) | (first | refine Stp.h ?_ | refine Post.then_normal ?_ | refine Post.next ?_ | refine Post.block_other rfl ?_) | refine Tri.ca ?_))
    ((show Tri _ _ _ (.cond _ _ _) _ _ _; first | refine Tri.condP rfl (fun hc => ?_) (fun hc => ?_) | refine Tri.condN rfl (fun hc => ?_) (fun hc => ?_)))
    · have hstep : sideP L 0 e fw nv (u * nv + v + 1) = sideP L 0 e fw nv (u * nv + v) ++ quadAt L 0 e fw u v := sideP_succ (by omega)
      generalize hY : sideP L 0 e fw nv (u * nv + v) = Y at hl2 hstep ⊢
      (repeat' (first | (show TL _ _ _ _ (_ :: _) _ _ _; first | refine TL.sa ?_ | (refine TL.na ?_; intro _)) | (first | refine Stp.h ?_ | refine Post.then_normal ?_ | refine Post.next ?_ | refine Post.block_other rfl ?_) | refine Tri.ca ?_))
      refine TL.callv rfl rfl rfl rfl (indexRef_ok (L := L) (x := ⟨(e : Int), ((u : Nat) : Int), ((v : Nat) : Int)⟩) (by omega) hn (hmem (u) (v) (by omega) (by omega))) ?_
      rintro _ _ ⟨rfl, rfl⟩
      (repeat' (first | (show TL _ _ _ _ (_ :: _) _ _ _; first | refine TL.sa ?_ | (refine TL.na ?_; intro _)) | (first | refine Stp.h ?_ | refine Post.then_normal ?_ | refine Post.next ?_ | refine Post.block_other rfl ?_) | refine Tri.ca ?_))
      refine TL.callv rfl rfl rfl rfl (indexRef_ok (L := L) (x := ⟨(e : Int), ((u + 1 : Nat) : Int), ((v : Nat) : Int)⟩) (by omega) hn (hmem (u + 1) (v) (by omega) (by omega))) ?_
      rintro _ _ ⟨rfl, rfl⟩
      (repeat' (first | (show TL _ _ _ _ (_ :: _) _ _ _; first | refine TL.sa ?_ | (refine TL.na ?_; intro _)) | (first | refine Stp.h ?_ | refine Post.then_normal ?_ | refine Post.next ?_ | refine Post.block_other rfl ?_) | refine Tri.ca ?_))
      refine TL.callv rfl rfl rfl rfl (indexRef_ok (L := L) (x := ⟨(e : Int), ((u + 1 : Nat) : Int), ((v + 1 : Nat) : Int)⟩) (by omega) hn (hmem (u + 1) (v + 1) (by omega) (by omega))) ?_
      rintro _ _ ⟨rfl, rfl⟩
      (repeat' (first | (show TL _ _ _ _ (_ :: _) _ _ _; first | refine TL.sa ?_ | (refine TL.na ?_; intro _)) | (first | refine Stp.h ?_ | refine Post.then_normal ?_ | refine Post.next ?_ | refine Post.block_other rfl ?_) | refine Tri.ca ?_))
      refine TL.callv rfl rfl rfl rfl (indexRef_ok (L := L) (x := ⟨(e : Int), ((u : Nat) : Int), ((v + 1 : Nat) : Int)⟩) (by omega) hn (hmem (u) (v + 1) (by omega) (by omega))) ?_
      rintro _ _ ⟨rfl, rfl⟩
      (repeat' (first | (show TL _ _ _ _ (_ :: _) _ _ _; first | refine TL.sa ?_ | (refine TL.na ?_; intro _)) | (first | refine Stp.h ?_ | refine Post.then_normal ?_ | refine Post.next ?_ | refine Post.block_other rfl ?_) | refine Tri.ca ?_))
      cases fw with
      | true =>
        (repeat' (first | (show TL _ _ _ _ (_ :: _) _ _ _; first | refine TL.sa ?_ | (refine TL.na ?_; intro _)) | (first | refine Stp.h ?_ | refine Post.then_normal ?_ | refine Post.next ?_ | refine Post.block_other rfl ?_) | refine Tri.ca ?_))
        refine TL.ents (Ents.clW cV3 (quadAt L 0 e true u v) rfl (n := 2) (cap := 2) rfl rfl) ?_
        have hq2 : (quadAt L 0 e true u v).length = 2 := quad_len
        generalize quadAt L 0 e true u v = Q at hstep hq2 ⊢
        (repeat' (first | (show TL _ _ _ _ (_ :: _) _ _ _; first | refine TL.sa ?_ | (refine TL.na ?_; intro _)) | (first | refine Stp.h ?_ | refine Post.then_normal ?_ | refine Post.next ?_ | refine Post.block_other rfl ?_) | refine Tri.ca ?_))
        rename_i v9
        refine Post.round (v + 1, v9) (by simp only; omega) (by simp only; omega) (by (exact Sub.au)) ?_
        simp only [← Nat.add_assoc]
        rw [hstep]
        (exact Ents.au)
      | false =>
        (repeat' (first | (show TL _ _ _ _ (_ :: _) _ _ _; first | refine TL.sa ?_ | (refine TL.na ?_; intro _)) | (first | refine Stp.h ?_ | refine Post.then_normal ?_ | refine Post.next ?_ | refine Post.block_other rfl ?_) | refine Tri.ca ?_))
        refine TL.ents (Ents.clW cV3 (quadAt L 0 e false u v) rfl (n := 2) (cap := 2) rfl rfl) ?_
        have hq2 : (quadAt L 0 e false u v).length = 2 := quad_len
        generalize quadAt L 0 e false u v = Q at hstep hq2 ⊢
        (repeat' (first | (show TL _ _ _ _ (_ :: _) _ _ _; first | refine TL.sa ?_ | (refine TL.na ?_; intro _)) | (first | refine Stp.h ?_ | refine Post.then_normal ?_ | refine Post.next ?_ | refine Post.block_other rfl ?_) | refine Tri.ca ?_))
        rename_i v9
        refine Post.round (v + 1, v9) (by simp only; omega) (by simp only; omega) (by (exact Sub.au)) ?_
        simp only [← Nat.add_assoc]
        rw [hstep]
        (exact Ents.au)
    · have hvn : v = nv := by omega
      (repeat' (first | (show TL _ _ _ _ (_ :: _) _ _ _; first | refine TL.sa ?_ | (refine TL.na ?_; intro _)) | (first | refine Stp.h ?_ | refine Post.then_normal ?_ | refine Post.next ?_ | refine Post.block_other rfl ?_) | refine Tri.ca ?_))
      refine Post.round (u + 1, gv) (by simp only; omega) (by simp only; omega) (by (exact Sub.au)) ?_
      simp only
      rw [show (u + 1) * nv = u * nv + v by rw [hvn, Nat.succ_mul]]
      (exact Ents.au)
  · have hun : u = nu := by omega
    subst hun
    (repeat' (first | (show TL _ _ _ _ (_ :: _) _ _ _; first | refine TL.sa ?_ | (refine TL.na ?_; intro _)) | (first | refine Stp.h ?_ | refine Post.then_normal ?_ | refine Post.next ?_ | refine Post.block_other rfl ?_) | refine Tri.ca ?_))
    (refine Post.ra ?_)
    rw [hsF]
    exact ⟨_, rfl, by (exact Ents.au)⟩
set_option maxRecDepth 100000 in
set_option maxHeartbeats 4000000 in
theorem sideRef1_ok {lv : Value} {a b c en : Nat} [hr : RdIn As lv V3 cV3 (nodesF a b c)] (hen : en < 2) (ha : 2 ≤ a) (ha9 : a ≤ 9) (hb : 2 ≤ b) (hb9 : b ≤ 9) (hc' : 2 ≤ c) (hc9 : c ≤ 9) (h300 : (nodesF a b c).length ≤ 300) :
    CallsS Tryz.prog w0 37 [lv, .agg #[.int .i64 (a : Int), .int .i64 (b : Int), .int .i64 (c : Int)], .int .i64 1, .int .i64 ((en * (b - 1) : Nat) : Int)] As fun q Bs => Bs = .ow cV3 27 q (sideF a b c 1 en) :: As := by
  have hn : (nodesF a b c).Nodup := nodes_nodup a b c (a * b * c)
  have hmem : ∀ u v : Nat, u < a → v < c → (nodeAt 1 (en * (b - 1)) u v) ∈ nodesF a b c := fun u v hu hv => corner_mem (ax := 1) (by omega) hen ha hb hc' hu hv
  have hfw : fwdS 1 en = (decide (0 < en * (b - 1)) != decide (1 = 1)) := by
    have : en = 0 ∨ en = 1 := by omega
    rcases this with rfl | rfl
    · simp [fwdS]
    · have : 0 < 1 * (b - 1) := by omega
      simp [fwdS]; omega
  have hsF : sideF a b c 1 en = sideP (nodesF a b c) 1 (en * (b - 1)) (fwdS 1 en) (c - 1) ((a - 1) * (c - 1)) := rfl
  have he9 : en * (b - 1) ≤ 9 := by
    have := Nat.mul_le_mul (show en ≤ 1 by omega) (show b - 1 ≤ 9 by omega)
    omega
  generalize hee : en * (b - 1) = e at hmem hfw hsF he9 ⊢
  generalize hL : nodesF a b c = L at hn hmem hsF h300 hr
  generalize hF : fwdS 1 en = fw at hfw hsF
  refine CallsS.of_tri Tryz.func37 rfl Tryz.ntmps37 rfl ?_
  have h11 : (!decide (decide ((0 : Int) < (e : Int)) = decide ((1 : Int) = 1))) = fw := by
    rw [hfw]
    by_cases h : 0 < e <;> simp [h]
  (repeat' (first | (show TL _ _ _ _ (_ :: _) _ _ _; first | refine TL.sa ?_ | (refine TL.na ?_; intro _)) | (first | refine Stp.h ?_ | refine Post.then_normal ?_ | refine Post.next ?_ | refine Post.block_other rfl ?_) | refine Tri.ca ?_))
  rw [h11]
  clear hfw h11
  rename_i b5
  generalize hnu : a - 1 = nu at hsF
  generalize hnv : c - 1 = nv at hsF
  refine Tri.ents (Ents.nilW (T := 27) cV3) ?_
  refine Tri.loop (ι := Nat × Value) (fun s => s.1 ≤ nu) (fun s => nu - s.1) (fun s => [(0, lv), (2, .int .i64 1), (3, .int .i64 (e : Int)), (5, .pointer (some ⟨b5, 0, none⟩)), (9, .int .i64 0), (10, .int .i64 2), (11, .bool fw), (12, s.2), (13, .int .i64 (s.1 : Int))])
    (fun s => .ow cV3 27 s.2 (sideP L 1 e fw nv (s.1 * nv)) :: .cl b5 [.int .i64 (a : Int), .int .i64 (b : Int), .int .i64 (c : Int)] 27 :: As) (0, .slice none 0 0) (Nat.zero_le _) (by (exact Sub.au)) (by simp only [Nat.zero_mul, sideP, List.range_zero, List.flatMap_nil]; (exact Ents.au)) ?_
  rintro ⟨u, fv⟩ hu
  simp only at hu
  have hl1 : (sideP L 1 e fw nv (u * nv)).length ≤ 2000 := by
    rw [sideP_len]
    have := Nat.mul_le_mul (show u ≤ 8 by omega) (show nv ≤ 8 by omega)
    omega
  show Tri _ _ _ _ [(0, _), (2, _), (3, _), (5, _), (9, _), (10, _), (11, _), (12, fv), (13, .int .i64 (u : Int))] (.ow cV3 _ fv _ :: _) _
  (repeat' (first | (show TL _ _ _ _ (_ :: _) _ _ _; first | refine TL.sa ?_ | (refine TL.na ?_; intro _)) | (first | refine Stp.h ?_ | refine Post.then_normal ?_ | refine Post.next ?_ | refine Post.block_other rfl ?_) | refine Tri.ca ?_))
  ((show Tri _ _ _ (.cond _ _ _) _ _ _; first | refine Tri.condP rfl (fun hc => ?_) (fun hc => ?_) | refine Tri.condN rfl (fun hc => ?_) (fun hc => ?_)))
  · (repeat' (first | (show TL _ _ _ _ (_ :: _) _ _ _; first | refine TL.sa ?_ | (refine TL.na ?_; intro _)) | (first | refine Stp.h ?_ | refine Post.then_normal ?_ | refine Post.next ?_ | refine Post.block_other rfl ?_) | refine Tri.ca ?_))
    refine Tri.loop (ι := Nat × Value) (fun s => s.1 ≤ nv) (fun s => nv - s.1) (fun s => [(0, lv), (2, .int .i64 1), (3, .int .i64 (e : Int)), (5, .pointer (some ⟨b5, 0, none⟩)), (9, .int .i64 0), (10, .int .i64 2), (11, .bool fw), (12, s.2), (13, .int .i64 (u : Int)), (14, .int .i64 (s.1 : Int))])
      (fun s => .ow cV3 27 s.2 (sideP L 1 e fw nv (u * nv + s.1)) :: .cl b5 [.int .i64 (a : Int), .int .i64 (b : Int), .int .i64 (c : Int)] 27 :: As) (0, fv) (Nat.zero_le _) (by (exact Sub.au)) (by simp only [Nat.add_zero]; (exact Ents.au)) ?_
    rintro ⟨v, gv⟩ hv
    simp only at hv
    have hl2 : (sideP L 1 e fw nv (u * nv + v)).length ≤ 2000 := by
      rw [sideP_len]
      have := Nat.mul_le_mul (show u ≤ 8 by omega) (show nv ≤ 8 by omega)
      omega
    show Tri _ _ _ _ [(0, _), (2, _), (3, _), (5, _), (9, _), (10, _), (11, _), (12, gv), (13, .int .i64 (u : Int)), (14, .int .i64 (v : Int))] (.ow cV3 _ gv _ :: _) _
    (repeat' (first | (show TL _ _ _ _ (_ :: _) _ _ _; first | refine TL.sa ?_ | (refine TL.na ?_; intro _)) | (first | refine Stp.h ?_ | refine Post.then_normal ?_ | refine Post.next ?_ | refine Post.block_other rfl ?_) | refine Tri.ca ?_))
    ((show Tri _ _ _ (.cond _ _ _) _ _ _; first | refine Tri.condP rfl (fun hc => ?_) (fun hc => ?_) | refine Tri.condN rfl (fun hc => ?_) (fun hc => ?_)))
    · have hstep : sideP L 1 e fw nv (u * nv + v + 1) = sideP L 1 e fw nv (u * nv + v) ++ quadAt L 1 e fw u v := sideP_succ (by omega)
      generalize hY : sideP L 1 e fw nv (u * nv + v) = Y at hl2 hstep ⊢
      (repeat' (first | (show TL _ _ _ _ (_ :: _) _ _ _; first | refine TL.sa ?_ | (refine TL.na ?_; intro _)) | (first | refine Stp.h ?_ | refine Post.then_normal ?_ | refine Post.next ?_ | refine Post.block_other rfl ?_) | refine Tri.ca ?_))
      refine TL.callv rfl rfl rfl rfl (indexRef_ok (L := L) (x := ⟨((u : Nat) : Int), (e : Int), ((v : Nat) : Int)⟩) (by omega) hn (hmem (u) (v) (by omega) (by omega))) ?_
      rintro _ _ ⟨rfl, rfl⟩
      (repeat' (first | (show TL _ _ _ _ (_ :: _) _ _ _; first | refine TL.sa ?_ | (refine TL.na ?_; intro _)) | (first | refine Stp.h ?_ | refine Post.then_normal ?_ | refine Post.next ?_ | refine Post.block_other rfl ?_) | refine Tri.ca ?_))
      refine TL.callv rfl rfl rfl rfl (indexRef_ok (L := L) (x := ⟨((u + 1 : Nat) : Int), (e : Int), ((v : Nat) : Int)⟩) (by omega) hn (hmem (u + 1) (v) (by omega) (by omega))) ?_
      rintro _ _ ⟨rfl, rfl⟩
      (repeat' (first | (show TL _ _ _ _ (_ :: _) _ _ _; first | refine TL.sa ?_ | (refine TL.na ?_; intro _)) | (first | refine Stp.h ?_ | refine Post.then_normal ?_ | refine Post.next ?_ | refine Post.block_other rfl ?_) | refine Tri.ca ?_))
      refine TL.callv rfl rfl rfl rfl (indexRef_ok (L := L) (x := ⟨((u + 1 : Nat) : Int), (e : Int), ((v + 1 : Nat) : Int)⟩) (by omega) hn (hmem (u + 1) (v + 1) (by omega) (by omega))) ?_
      rintro _ _ ⟨rfl, rfl⟩
      (repeat' (first | (show TL _ _ _ _ (_ :: _) _ _ _; first | refine TL.sa ?_ | (refine TL.na ?_; intro _)) | (first | refine Stp.h ?_ | refine Post.then_normal ?_ | refine Post.next ?_ | refine Post.block_other rfl ?_) | refine Tri.ca ?_))
      refine TL.callv rfl rfl rfl rfl (indexRef_ok (L := L) (x := ⟨((u : Nat) : Int), (e : Int), ((v + 1 : Nat) : Int)⟩) (by omega) hn (hmem (u) (v + 1) (by omega) (by omega))) ?_
      rintro _ _ ⟨rfl, rfl⟩
      (repeat' (first | (show TL _ _ _ _ (_ :: _) _ _ _; first | refine TL.sa ?_ | (refine TL.na ?_; intro _)) | (first | refine Stp.h ?_ | refine Post.then_normal ?_ | refine Post.next ?_ | refine Post.block_other rfl ?_) | refine Tri.ca ?_))
      cases fw with
      | true =>
        (repeat' (first | (show TL _ _ _ _ (_ :: _) _ _ _; first | refine TL.sa ?_ | (refine TL.na ?_; intro _)) | (first | refine Stp.h ?_ | refine Post.then_normal ?_ | refine Post.next ?_ | refine Post.block_other rfl ?_) | refine Tri.ca ?_))
        refine TL.ents (Ents.clW cV3 (quadAt L 1 e true u v) rfl (n := 2) (cap := 2) rfl rfl) ?_
        have hq2 : (quadAt L 1 e true u v).length = 2 := quad_len
        generalize quadAt L 1 e true u v = Q at hstep hq2 ⊢
        (repeat' (first | (show TL _ _ _ _ (_ :: _) _ _ _; first | refine TL.sa ?_ | (refine TL.na ?_; intro _)) | (first | refine Stp.h ?_ | refine Post.then_normal ?_ | refine Post.next ?_ | refine Post.block_other rfl ?_) | refine Tri.ca ?_))
        rename_i v9
        refine Post.round (v + 1, v9) (by simp only; omega) (by simp only; omega) (by (exact Sub.au)) ?_
        simp only [← Nat.add_assoc]
        rw [hstep]
        (exact Ents.au)
      | false =>
        (repeat' (first | (show TL _ _ _ _ (_ :: _) _ _ _; first | refine TL.sa ?_ | (refine TL.na ?_; intro _)) | (first | refine Stp.h ?_ | refine Post.then_normal ?_ | refine Post.next ?_ | refine Post.block_other rfl ?_) | refine Tri.ca ?_))
        refine TL.ents (Ents.clW cV3 (quadAt L 1 e false u v) rfl (n := 2) (cap := 2) rfl rfl) ?_
        have hq2 : (quadAt L 1 e false u v).length = 2 := quad_len
        generalize quadAt L 1 e false u v = Q at hstep hq2 ⊢
        (repeat' (first | (show TL _ _ _ _ (_ :: _) _ _ _; first | refine TL.sa ?_ | (refine TL.na ?_; intro _)) | (first | refine Stp.h ?_ | refine Post.then_normal ?_ | refine Post.next ?_ | refine Post.block_other rfl ?_) | refine Tri.ca ?_))
        rename_i v9
        refine Post.round (v + 1, v9) (by simp only; omega) (by simp only; omega) (by (exact Sub.au)) ?_
        simp only [← Nat.add_assoc]
        rw [hstep]
        (exact Ents.au)
    · have hvn : v = nv := by omega
      (repeat' (first | (show TL _ _ _ _ (_ :: _) _ _ _; first | refine TL.sa ?_ | (refine TL.na ?_; intro _)) | (first | refine Stp.h ?_ | refine Post.then_normal ?_ | refine Post.next ?_ | refine Post.block_other rfl ?_) | refine Tri.ca ?_))
      refine Post.round (u + 1, gv) (by simp only; omega) (by simp only; omega) (by (exact Sub.au)) ?_
      simp only
      rw [show (u + 1) * nv = u * nv + v by rw [hvn, Nat.succ_mul]]
      (exact Ents.au)
  · have hun : u = nu := by omega
    subst hun
    (repeat' (first | (show TL _ _ _ _ (_ :: _) _ _ _; first | refine TL.sa ?_ | (refine TL.na ?_; intro _)) | (first | refine Stp.h ?_ | refine Post.then_normal ?_ | refine Post.next ?_ | refine Post.block_other rfl ?_) | refine Tri.ca ?_))
    (refine Post.ra ?_)
    rw [hsF]
    exact ⟨_, rfl, by (exact Ents.au)⟩
set_option maxRecDepth 100000 in
set_option maxHeartbeats 4000000 in
theorem sideRef2_ok {lv : Value} {a b c en : Nat} [hr : RdIn As lv V3 cV3 (nodesF a b c)] (hen : en < 2) (ha : 2 ≤ a) (ha9 : a ≤ 9) (hb : 2 ≤ b) (hb9 : b ≤ 9) (hc' : 2 ≤ c) (hc9 : c ≤ 9) (h300 : (nodesF a b c).length ≤ 300) :
    CallsS Tryz.prog w0 37 [lv, .agg #[.int .i64 (a : Int), .int .i64 (b : Int), .int .i64 (c : Int)], .int .i64 2, .int .i64 ((en * (c - 1) : Nat) : Int)] As fun q Bs => Bs = .ow cV3 27 q (sideF a b c 2 en) :: As := by
  have hn : (nodesF a b c).Nodup := nodes_nodup a b c (a * b * c)
  have hmem : ∀ u v : Nat, u < a → v < b → (nodeAt 2 (en * (c - 1)) u v) ∈ nodesF a b c := fun u v hu hv => corner_mem (ax := 2) (by omega) hen ha hb hc' hu hv
  have hfw : fwdS 2 en = (decide (0 < en * (c - 1)) != decide (2 = 1)) := by
    have : en = 0 ∨ en = 1 := by omega
    rcases this with rfl | rfl
    · simp [fwdS]
    · have : 0 < 1 * (c - 1) := by omega
      simp [fwdS]; omega
  have hsF : sideF a b c 2 en = sideP (nodesF a b c) 2 (en * (c - 1)) (fwdS 2 en) (b - 1) ((a - 1) * (b - 1)) := rfl
  have he9 : en * (c - 1) ≤ 9 := by
    have := Nat.mul_le_mul (show en ≤ 1 by omega) (show c - 1 ≤ 9 by omega)
    omega
  generalize hee : en * (c - 1) = e at hmem hfw hsF he9 ⊢
  generalize hL : nodesF a b c = L at hn hmem hsF h300 hr
  generalize hF : fwdS 2 en = fw at hfw hsF
  refine CallsS.of_tri Tryz.func37 rfl Tryz.ntmps37 rfl ?_
  have h11 : (!decide (decide ((0 : Int) < (e : Int)) = decide ((2 : Int) = 1))) = fw := by
    rw [hfw]
    by_cases h : 0 < e <;> simp [h]
  (repeat' (first | (show TL _ _ _ _ (_ :: _) _ _ _; first | refine TL.sa ?_ | (refine TL.na ?_; intro _)) | (first | refine Stp.h ?_ | refine Post.then_normal ?_ | refine Post.next ?_ | refine Post.block_other rfl ?_) | refine Tri.ca ?_))
  rw [h11]
  clear hfw h11
  rename_i b5
  generalize hnu : a - 1 = nu at hsF
  generalize hnv : b - 1 = nv at hsF
  refine Tri.ents (Ents.nilW (T := 27) cV3) ?_
  refine Tri.loop (ι := Nat × Value) (fun s => s.1 ≤ nu) (fun s => nu - s.1) (fun s => [(0, lv), (2, .int .i64 2), (3, .int .i64 (e : Int)), (5, .pointer (some ⟨b5, 0, none⟩)), (9, .int .i64 0), (10, .int .i64 1), (11, .bool fw), (12, s.2), (13, .int .i64 (s.1 : Int))])
    (fun s => .ow cV3 27 s.2 (sideP L 2 e fw nv (s.1 * nv)) :: .cl b5 [.int .i64 (a : Int), .int .i64 (b : Int), .int .i64 (c : Int)] 27 :: As) (0, .slice none 0 0) (Nat.zero_le _) (by (exact Sub.au)) (by simp only [Nat.zero_mul, sideP, List.range_zero, List.flatMap_nil]; (exact Ents.au)) ?_
  rintro ⟨u, fv⟩ hu
  simp only at hu
  have hl1 : (sideP L 2 e fw nv (u * nv)).length ≤ 2000 := by
    rw [sideP_len]
    have := Nat.mul_le_mul (show u ≤ 8 by omega) (show nv ≤ 8 by omega)
    omega
  show Tri _ _ _ _ [(0, _), (2, _), (3, _), (5, _), (9, _), (10, _), (11, _), (12, fv), (13, .int .i64 (u : Int))] (.ow cV3 _ fv _ :: _) _
  (repeat' (first | (show TL _ _ _ _ (_ :: _) _ _ _; first | refine TL.sa ?_ | (refine TL.na ?_; intro _)) | (first | refine Stp.h ?_ | refine Post.then_normal ?_ | refine Post.next ?_ | refine Post.block_other rfl ?_) | refine Tri.ca ?_))
  ((show Tri _ _ _ (.cond _ _ _) _ _ _; first | refine Tri.condP rfl (fun hc => ?_) (fun hc => ?_) | refine Tri.condN rfl (fun hc => ?_) (fun hc => ?_)))
  · (repeat' (first | (show TL _ _ _ _ (_ :: _) _ _ _; first | refine TL.sa ?_ | (refine TL.na ?_; intro _)) | (first | refine Stp.h ?_ | refine Post.then_normal ?_ | refine Post.next ?_ | refine Post.block_other rfl ?_) | refine Tri.ca ?_))
    refine Tri.loop (ι := Nat × Value) (fun s => s.1 ≤ nv) (fun s => nv - s.1) (fun s => [(0, lv), (2, .int .i64 2), (3, .int .i64 (e : Int)), (5, .pointer (some ⟨b5, 0, none⟩)), (9, .int .i64 0), (10, .int .i64 1), (11, .bool fw), (12, s.2), (13, .int .i64 (u : Int)), (14, .int .i64 (s.1 : Int))])
      (fun s => .ow cV3 27 s.2 (sideP L 2 e fw nv (u * nv + s.1)) :: .cl b5 [.int .i64 (a : Int), .int .i64 (b : Int), .int .i64 (c : Int)] 27 :: As) (0, fv) (Nat.zero_le _) (by (exact Sub.au)) (by simp only [Nat.add_zero]; (exact Ents.au)) ?_
    rintro ⟨v, gv⟩ hv
    simp only at hv
    have hl2 : (sideP L 2 e fw nv (u * nv + v)).length ≤ 2000 := by
      rw [sideP_len]
      have := Nat.mul_le_mul (show u ≤ 8 by omega) (show nv ≤ 8 by omega)
      omega
    show Tri _ _ _ _ [(0, _), (2, _), (3, _), (5, _), (9, _), (10, _), (11, _), (12, gv), (13, .int .i64 (u : Int)), (14, .int .i64 (v : Int))] (.ow cV3 _ gv _ :: _) _
    (repeat' (first | (show TL _ _ _ _ (_ :: _) _ _ _; first | refine TL.sa ?_ | (refine TL.na ?_; intro _)) | (first | refine Stp.h ?_ | refine Post.then_normal ?_ | refine Post.next ?_ | refine Post.block_other rfl ?_) | refine Tri.ca ?_))
    ((show Tri _ _ _ (.cond _ _ _) _ _ _; first | refine Tri.condP rfl (fun hc => ?_) (fun hc => ?_) | refine Tri.condN rfl (fun hc => ?_) (fun hc => ?_)))
    · have hstep : sideP L 2 e fw nv (u * nv + v + 1) = sideP L 2 e fw nv (u * nv + v) ++ quadAt L 2 e fw u v := sideP_succ (by omega)
      generalize hY : sideP L 2 e fw nv (u * nv + v) = Y at hl2 hstep ⊢
      (repeat' (first | (show TL _ _ _ _ (_ :: _) _ _ _; first | refine TL.sa ?_ | (refine TL.na ?_; intro _)) | (first | refine Stp.h ?_ | refine Post.then_normal ?_ | refine Post.next ?_ | refine Post.block_other rfl ?_) | refine Tri.ca ?_))
      refine TL.callv rfl rfl rfl rfl (indexRef_ok (L := L) (x := ⟨((u : Nat) : Int), ((v : Nat) : Int), (e : Int)⟩) (by omega) hn (hmem (u) (v) (by omega) (by omega))) ?_
      rintro _ _ ⟨rfl, rfl⟩
      (repeat' (first | (show TL _ _ _ _ (_ :: _) _ _ _; first | refine TL.sa ?_ | (refine TL.na ?_; intro _)) | (first | refine Stp.h ?_ | refine Post.then_normal ?_ | refine Post.next ?_ | refine Post.block_other rfl ?_) | refine Tri.ca ?_))
      refine TL.callv rfl rfl rfl rfl (indexRef_ok (L := L) (x := ⟨((u + 1 : Nat) : Int), ((v : Nat) : Int), (e : Int)⟩) (by omega) hn (hmem (u + 1) (v) (by omega) (by omega))) ?_
      rintro _ _ ⟨rfl, rfl⟩
      (repeat' (first | (show TL _ _ _ _ (_ :: _) _ _ _; first | refine TL.sa ?_ | (refine TL.na ?_; intro _)) | (first | refine Stp.h ?_ | refine Post.then_normal ?_ | refine Post.next ?_ | refine Post.block_other rfl ?_) | refine Tri.ca ?_))
      refine TL.callv rfl rfl rfl rfl (indexRef_ok (L := L) (x := ⟨((u + 1 : Nat) : Int), ((v + 1 : Nat) : Int), (e : Int)⟩) (by omega) hn (hmem (u + 1) (v + 1) (by omega) (by omega))) ?_
      rintro _ _ ⟨rfl, rfl⟩
      (repeat' (first | (show TL _ _ _ _ (_ :: _) _ _ _; first | refine TL.sa ?_ | (refine TL.na ?_; intro _)) | (first | refine Stp.h ?_ | refine Post.then_normal ?_ | refine Post.next ?_ | refine Post.block_other rfl ?_) | refine Tri.ca ?_))
      refine TL.callv rfl rfl rfl rfl (indexRef_ok (L := L) (x := ⟨((u : Nat) : Int), ((v + 1 : Nat) : Int), (e : Int)⟩) (by omega) hn (hmem (u) (v + 1) (by omega) (by omega))) ?_
      rintro _ _ ⟨rfl, rfl⟩
      (repeat' (first | (show TL _ _ _ _ (_ :: _) _ _ _; first | refine TL.sa ?_ | (refine TL.na ?_; intro _)) | (first | refine Stp.h ?_ | refine Post.then_normal ?_ | refine Post.next ?_ | refine Post.block_other rfl ?_) | refine Tri.ca ?_))
      cases fw with
      | true =>
        (repeat' (first | (show TL _ _ _ _ (_ :: _) _ _ _; first | refine TL.sa ?_ | (refine TL.na ?_; intro _)) | (first | refine Stp.h ?_ | refine Post.then_normal ?_ | refine Post.next ?_ | refine Post.block_other rfl ?_) | refine Tri.ca ?_))
        refine TL.ents (Ents.clW cV3 (quadAt L 2 e true u v) rfl (n := 2) (cap := 2) rfl rfl) ?_
        have hq2 : (quadAt L 2 e true u v).length = 2 := quad_len
        generalize quadAt L 2 e true u v = Q at hstep hq2 ⊢
        (repeat' (first | (show TL _ _ _ _ (_ :: _) _ _ _; first | refine TL.sa ?_ | (refine TL.na ?_; intro _)) | (first | refine Stp.h ?_ | refine Post.then_normal ?_ | refine Post.next ?_ | refine Post.block_other rfl ?_) | refine Tri.ca ?_))
        rename_i v9
        refine Post.round (v + 1, v9) (by simp only; omega) (by simp only; omega) (by (exact Sub.au)) ?_
        simp only [← Nat.add_assoc]
        rw [hstep]
        (exact Ents.au)
      | false =>
        (repeat' (first | (show TL _ _ _ _ (_ :: _) _ _ _; first | refine TL.sa ?_ | (refine TL.na ?_; intro _)) | (first | refine Stp.h ?_ | refine Post.then_normal ?_ | refine Post.next ?_ | refine Post.block_other rfl ?_) | refine Tri.ca ?_))
        refine TL.ents (Ents.clW cV3 (quadAt L 2 e false u v) rfl (n := 2) (cap := 2) rfl rfl) ?_
        have hq2 : (quadAt L 2 e false u v).length = 2 := quad_len
        generalize quadAt L 2 e false u v = Q at hstep hq2 ⊢
        (repeat' (first | (show TL _ _ _ _ (_ :: _) _ _ _; first | refine TL.sa ?_ | (refine TL.na ?_; intro _)) | (first | refine Stp.h ?_ | refine Post.then_normal ?_ | refine Post.next ?_ | refine Post.block_other rfl ?_) | refine Tri.ca ?_))
        rename_i v9
        refine Post.round (v + 1, v9) (by simp only; omega) (by simp only; omega) (by (exact Sub.au)) ?_
        simp only [← Nat.add_assoc]
        rw [hstep]
        (exact Ents.au)
    · have hvn : v = nv := by omega
      (repeat' (first | (show TL _ _ _ _ (_ :: _) _ _ _; first | refine TL.sa ?_ | (refine TL.na ?_; intro _)) | (first | refine Stp.h ?_ | refine Post.then_normal ?_ | refine Post.next ?_ | refine Post.block_other rfl ?_) | refine Tri.ca ?_))
      refine Post.round (u + 1, gv) (by simp only; omega) (by simp only; omega) (by (exact Sub.au)) ?_
      simp only
      rw [show (u + 1) * nv = u * nv + v by rw [hvn, Nat.succ_mul]]
      (exact Ents.au)
  · have hun : u = nu := by omega
    subst hun
    (repeat' (first | (show TL _ _ _ _ (_ :: _) _ _ _; first | refine TL.sa ?_ | (refine TL.na ?_; intro _)) | (first | refine Stp.h ?_ | refine Post.then_normal ?_ | refine Post.next ?_ | refine Post.block_other rfl ?_) | refine Tri.ca ?_))
    (refine Post.ra ?_)
    rw [hsF]
    exact ⟨_, rfl, by (exact Ents.au)⟩
end Go.Proofs.YtjpghlljcibcjaaGreatDoor
namespace Go.Sx
open Go
theorem signW_text {z : Int} (h : Lib.nDigits z.natAbs ≤ 600) : signW (textI z) = (signI z, 0) := by
  unfold signW
  rw [readW_text h]
end Go.Sx
namespace Go.Proofs.YtjpghlljcibcjaaGreatDoor
open Go Go.Sx
variable {w0 : World} {As : List Ent}
theorem vol_digits {P F : List V3} (hg : Sx.Good P F) : Lib.nDigits (volM P F).natAbs ≤ 600 := by
  have h := volTake_in (far_none hg.far) F F.length
  rw [List.take_length] at h
  have := hg.f600
  exact nDigits_600 (by omega) (by omega)
theorem sideRef_ok {lv : Value} {a b c ax en : Nat} {sz : Nat} [hr : RdIn As lv V3 cV3 (nodesF a b c)] (hax : ax < 3) (hen : en < 2) (ha : 2 ≤ a) (ha9 : a ≤ 9) (hb : 2 ≤ b) (hb9 : b ≤ 9) (hc : 2 ≤ c) (hc9 : c ≤ 9) (h300 : (nodesF a b c).length ≤ 300) (hsz : sz = size3 a b c ax) :
    CallsS Tryz.prog w0 37 [lv, .agg #[.int .i64 (a : Int), .int .i64 (b : Int), .int .i64 (c : Int)], .int .i64 (ax : Int), .int .i64 ((en * (sz - 1) : Nat) : Int)] As fun q Bs => Bs = .ow cV3 27 q (sideF a b c ax en) :: As := by
  have h : ax = 0 ∨ ax = 1 ∨ ax = 2 := by omega
  subst hsz
  rcases h with rfl | rfl | rfl
  · exact sideRef0_ok hen ha ha9 hb hb9 hc hc9 h300
  · exact sideRef1_ok hen ha ha9 hb hb9 hc hc9 h300
  · exact sideRef2_ok hen ha ha9 hb hb9 hc hc9 h300
set_option maxRecDepth 100000 in
set_option maxHeartbeats 4000000 in
theorem shellRef_ok (ht : Tab w0) {sv dv : Value} {S D : List Int} {out : Int} [hs : RdIn As sv Int (cI .i64) S] [hd : RdIn As dv Int (cI .i64) D] (hl : S.length ≤ 1000000000) (hm : D.length ≤ 1000000000) :
    CallsS Tryz.prog w0 18 [.agg #[sv, .int .i64 out, dv]] As (MeshR As (shellR S out D)) := by
  refine CallsS.rdOne sv fun hsv => CallsS.rdOne dv fun hdv => ?_
  refine CallsS.of_tri Tryz.func18 rfl Tryz.ntmps18 rfl ?_
  (repeat' (first | (show TL _ _ _ _ (_ :: _) _ _ _; first | refine TL.sa ?_ | (refine TL.na ?_; intro _)) | (first | refine Stp.h ?_ | refine Post.then_normal ?_ | refine Post.next ?_ | refine Post.block_other rfl ?_) | refine Tri.ca ?_))
  rename_i b1 b2
  refine TL.call rfl rfl rfl (checkGR_ok (S := S) (D := D) hl hm) ?_
  rintro _ _ ⟨rfl, rfl⟩
  by_cases hg : gridOk S out D = true
  · rw [if_pos hg]
    have hgi := gridOk_iff.1 hg
    (repeat' (first | (show TL _ _ _ _ (_ :: _) _ _ _; first | refine TL.sa ?_ | (refine TL.na ?_; intro _)) | (first | refine Stp.h ?_ | refine Post.then_normal ?_ | refine Post.next ?_ | refine Post.block_other rfl ?_) | refine Tri.ca ?_))
    by_cases h3 : S.length = 3 ∧ out = 3
    · obtain ⟨h31, rfl⟩ := h3
      obtain ⟨x, y, z, hS⟩ := len3 h31
      have hx := hgi.2.2.1 x (by rw [hS]; simp)
      have hy := hgi.2.2.1 y (by rw [hS]; simp)
      have hz := hgi.2.2.1 z (by rw [hS]; simp)
      obtain ⟨a, rfl⟩ : ∃ a : Nat, x = (a : Int) := ⟨x.toNat, by omega⟩
      obtain ⟨b, rfl⟩ : ∃ b : Nat, y = (b : Int) := ⟨y.toNat, by omega⟩
      obtain ⟨c, rfl⟩ : ∃ c : Nat, z = (c : Int) := ⟨z.toNat, by omega⟩
      rw [shellR_three hS hg]
      have g0 : S[0]? = some (a : Int) := by rw [hS]; rfl
      have g1 : S[1]? = some (b : Int) := by rw [hS]; rfl
      have g2 : S[2]? = some (c : Int) := by rw [hS]; rfl
      have hDl : D.length = 3 * (a * b * c) := by
        have e : prodI S = ((a * b * c : Nat) : Int) := by rw [hS]; simp [prodI]
        have := hgi.2.2.2.1.2
        rw [e] at this
        omega
      have hDr := hgi.2.2.2.2
      (repeat' (first | (show TL _ _ _ _ (_ :: _) _ _ _; first | refine TL.sa ?_ | (refine TL.na ?_; intro _)) | (first | refine Stp.h ?_ | refine Post.then_normal ?_ | refine Post.next ?_ | refine Post.block_other rfl ?_) | refine Tri.ca ?_))
      refine Tri.dw (.cl b1 [sv, .int .i64 3, dv] 46 :: As) [] (.take 0 (.take 1 (.take 2 (.take 3 (.take 4 (.take 5 (.take 6 (.take 7 (.take 8 (.take 9 (.take 10 (.take 11 (.take 12 (.all [(13, .all [(14, .done)])])))))))))))))) ?_
      (repeat' (first | (show TL _ _ _ _ (_ :: _) _ _ _; first | refine TL.sa ?_ | (refine TL.na ?_; intro _)) | (first | refine Stp.h ?_ | refine Post.then_normal ?_ | refine Post.next ?_ | refine Post.block_other rfl ?_) | (show TT _ _ _ _ _ _ _ _ _; refine TT.sa ?_) | exact TTs.nil | refine TTs.cons ?_ ?_ | (show T1 _ _ _ _ _ _ _ _ _ _; first | refine T1.sa ?_ | (refine T1.na ?_; intro _)) | (show TC _ _ _ _ _ _ _ _ _ _; first | refine TC.goa ?_ | refine TC.fina ?_) | refine Tri.ca ?_))
      rename_i b5
      refine TL.callv rfl rfl rfl rfl (nodesRef_ok (a := a) (b := b) (c := c) (by omega) (by omega) (by omega) (by omega) (by omega) (by omega)) ?_
      rintro q _ rfl
      have hnode := fun x hx => node_in (a := a) (b := b) (c := c) (x := x) hx
      (repeat' (first | (show TL _ _ _ _ (_ :: _) _ _ _; first | refine TL.sa ?_ | (refine TL.na ?_; intro _)) | (first | refine Stp.h ?_ | refine Post.then_normal ?_ | refine Post.next ?_ | refine Post.block_other rfl ?_) | (show TT _ _ _ _ _ _ _ _ _; refine TT.sa ?_) | exact TTs.nil | refine TTs.cons ?_ ?_ | (show T1 _ _ _ _ _ _ _ _ _ _; first | refine T1.sa ?_ | (refine T1.na ?_; intro _)) | (show TC _ _ _ _ _ _ _ _ _ _; first | refine TC.goa ?_ | refine TC.fina ?_) | refine Tri.ca ?_))
      ((show Tri _ _ _ (.cond _ _ _) _ _ _; first | refine Tri.condP rfl (fun hc => ?_) (fun hc => ?_) | refine Tri.condN rfl (fun hc => ?_) (fun hc => ?_)))
      · rw [shellM, if_pos (by omega)]
        (repeat' (first | (show TL _ _ _ _ (_ :: _) _ _ _; first | refine TL.sa ?_ | (refine TL.na ?_; intro _)) | (first | refine Stp.h ?_ | refine Post.then_normal ?_ | refine Post.next ?_ | refine Post.block_other rfl ?_) | (show TT _ _ _ _ _ _ _ _ _; refine TT.sa ?_) | exact TTs.nil | refine TTs.cons ?_ ?_ | (show T1 _ _ _ _ _ _ _ _ _ _; first | refine T1.sa ?_ | (refine T1.na ?_; intro _)) | (show TC _ _ _ _ _ _ _ _ _ _; first | refine TC.goa ?_ | refine TC.fina ?_) | refine Tri.ca ?_))
        (refine Post.ra ?_)
        obtain ⟨As', h3, h4⟩ := meshR_none (As := As) (r := 3)
        exact ⟨As', h3, Ents.trans (by (exact Ents.au)) h4⟩
      · have h300 : (nodesF a b c).length ≤ 300 := by omega
        rw [shellM, if_neg (by omega)]
        (repeat' (first | (show TL _ _ _ _ (_ :: _) _ _ _; first | refine TL.sa ?_ | (refine TL.na ?_; intro _)) | (first | refine Stp.h ?_ | refine Post.then_normal ?_ | refine Post.next ?_ | refine Post.block_other rfl ?_) | (show TT _ _ _ _ _ _ _ _ _; refine TT.sa ?_) | exact TTs.nil | refine TTs.cons ?_ ?_ | (show T1 _ _ _ _ _ _ _ _ _ _; first | refine T1.sa ?_ | (refine T1.na ?_; intro _)) | (show TC _ _ _ _ _ _ _ _ _ _; first | refine TC.goa ?_ | refine TC.fina ?_) | refine Tri.ca ?_))
        rename_i b7
        have hn80 : a * b * c ≤ 729 := Nat.mul_le_mul (Nat.mul_le_mul (show a ≤ 9 by omega) (show b ≤ 9 by omega)) (show c ≤ 9 by omega)
        have hPs : ∀ n x, (nodesF a b c)[n]? = some x → (shellP D a b c).take (n + 1) = (shellP D a b c).take n ++ [pointV D b c x] := fun n x h => by
          have : (shellP D a b c)[n]? = some (pointV D b c x) := by unfold shellP; rw [List.getElem?_map, h]; rfl
          rw [List.take_add_one, this]; rfl
        have hPl : (shellP D a b c).length = (nodesF a b c).length := List.length_map ..
        refine Tri.loop (ι := Nat × Value) (fun s => s.1 ≤ (nodesF a b c).length) (fun s => (nodesF a b c).length - s.1) (fun s => [(1, .pointer (some ⟨b1, 0, none⟩)), (2, .pointer (some ⟨b2, 0, none⟩)), (3, .int .i64 0), (5, .pointer (some ⟨b5, 0, none⟩)), (6, q), (7, .pointer (some ⟨b7, 0, none⟩)), (8, .int .i64 (s.1 : Int))])
          (fun s => .cl b7 [s.2, .slice none 0 0] 36 :: .ow cV3 27 s.2 ((shellP D a b c).take s.1) :: .ow cV3 27 q (nodesF a b c) :: .cl b5 [.int .i64 (a : Int), .int .i64 (b : Int), .int .i64 (c : Int)] 27 :: .cl b2 [.slice none 0 0, .slice none 0 0] 36 :: .cl b1 [sv, .int .i64 3, dv] 46 :: As) (0, .slice none 0 0) (Nat.zero_le _) (by (exact Sub.au)) (Ents.trans (Ents.nilW (T := 27) cV3) (by simp only [List.take_zero]; (exact Ents.au))) ?_
        rintro ⟨n, pv⟩ hn
        simp only at hn
        show Tri _ _ _ _ [(1, _), (2, _), (3, _), (5, _), (6, _), (7, _), (8, .int .i64 (n : Int))] (.cl b7 [pv, _] _ :: .ow _ _ pv _ :: _) _
        (repeat' (first | (show TL _ _ _ _ (_ :: _) _ _ _; first | refine TL.sa ?_ | (refine TL.na ?_; intro _)) | (first | refine Stp.h ?_ | refine Post.then_normal ?_ | refine Post.next ?_ | refine Post.block_other rfl ?_) | refine Tri.ca ?_))
        ((show Tri _ _ _ (.cond _ _ _) _ _ _; first | refine Tri.condP rfl (fun hc => ?_) (fun hc => ?_) | refine Tri.condN rfl (fun hc => ?_) (fun hc => ?_)))
        · obtain ⟨x, hx⟩ : ∃ x, (nodesF a b c)[n]? = some x := ⟨_, List.getElem?_eq_getElem (by omega)⟩
          have hs := hPs n x hx
          have hl1 : ((shellP D a b c).take n).length ≤ 300 := by rw [List.length_take]; omega
          generalize (shellP D a b c).take n = Y at hs hl1 ⊢
          obtain ⟨i, j, k, hxe, hi, hj, hk, _⟩ := hnode x (List.mem_of_getElem? hx)
          have x0 : x.x = (i : Int) := by rw [hxe]
          have x1 : x.y = (j : Int) := by rw [hxe]
          have x2 : x.z = (k : Int) := by rw [hxe]
          have hlt := lt_cells hi hj hk
          have m1 : x.x * (b : Int) = ((i * b : Nat) : Int) := by rw [x0]; push_cast; rfl
          have m2 : ((i * b + j : Nat) : Int) * (c : Int) = (((i * b + j) * c : Nat) : Int) := by push_cast; rfl
          have hpl : placeN b c x = 3 * ((i * b + j) * c + k) := by rw [hxe]; simp [placeN]
          have n1 : i * b ≤ 81 := Nat.mul_le_mul (show i ≤ 9 by omega) (show b ≤ 9 by omega)
          generalize (i * b + j) * c = P2 at hlt m2 hpl
          generalize hP1 : i * b = P1 at m1 m2 n1
          have m3 : (x.x * (b : Int) + x.y) * (c : Int) = (P2 : Int) := by rw [m1, x1, ← m2]; push_cast; rfl
          (repeat' (first | (show TL _ _ _ _ (_ :: _) _ _ _; first | refine TL.sa ?_ | (refine TL.na ?_; intro _)) | (first | refine Stp.h ?_ | refine Post.then_normal ?_ | refine Post.next ?_ | refine Post.block_other rfl ?_) | refine Tri.ca ?_))
          refine Tri.dr (.take 0 (.take 1 (.take 2 (.take 3 (.take 4 (.take 5 (.take 6 (.take 7 (.take 8 (.take 9 (.take 10 (.take 11 (.take 12 (.take 13 (.take 14 (.take 15 (.take 16 (.take 17 (.take 18 (.take 19 (.take 20 (.take 21 (.take 22 (.take 23 (.take 24 (.done)))))))))))))))))))))))))) ?_
          (repeat' (first | (show TL _ _ _ _ (_ :: _) _ _ _; first | refine TL.sa ?_ | (refine TL.na ?_; intro _)) | (first | refine Stp.h ?_ | refine Post.then_normal ?_ | refine Post.next ?_ | refine Post.block_other rfl ?_) | (show TT _ _ _ _ _ _ _ _ _; refine TT.sa ?_) | exact TTs.nil | refine TTs.cons ?_ ?_ | (show T1 _ _ _ _ _ _ _ _ _ _; first | refine T1.sa ?_ | (refine T1.na ?_; intro _)) | (show TC _ _ _ _ _ _ _ _ _ _; first | refine TC.goa ?_ | refine TC.fina ?_) | refine Tri.ca ?_))
          rw [m3, x2, show (3 : Int) * ((P2 : Int) + (k : Int)) = ((3 * (P2 + k) : Nat) : Int) by omega]
          have hp : 3 * (P2 + k) + 2 < D.length := by omega
          have e1 : ((3 * (P2 + k) : Nat) : Int) + 1 = ((3 * (P2 + k) + 1 : Nat) : Int) := by omega
          have e2 : ((3 * (P2 + k) : Nat) : Int) + 2 = ((3 * (P2 + k) + 2 : Nat) : Int) := by omega
          rw [← hpl] at hp e1 e2 ⊢
          generalize hpp : placeN b c x = p at hp e1 e2 ⊢
          obtain ⟨y0, hy0⟩ : ∃ y, D[p]? = some y := ⟨_, List.getElem?_eq_getElem (by omega)⟩
          obtain ⟨y1, hy1⟩ : ∃ y, D[p + 1]? = some y := ⟨_, List.getElem?_eq_getElem (by omega)⟩
          obtain ⟨y2, hy2⟩ : ∃ y, D[p + 2]? = some y := ⟨_, List.getElem?_eq_getElem (by omega)⟩
          have hpv : pointV D b c x = colorV y0 y1 y2 := by unfold pointV gAt; rw [hpp, hy0, hy1, hy2]; rfl
          obtain ⟨z0, z1⟩ := hDr y0 (List.mem_of_getElem? hy0)
          obtain ⟨z2, z3⟩ := hDr y1 (List.mem_of_getElem? hy1)
          obtain ⟨z4, z5⟩ := hDr y2 (List.mem_of_getElem? hy2)
          refine Tri.dw (.cl b7 [pv, .slice none 0 0] 36 :: .cl b1 [sv, .int .i64 3, dv] 46 :: As) [] (.take 0 (.take 1 (.take 2 (.take 3 (.take 4 (.take 5 (.take 6 (.take 7 (.take 8 (.take 9 (.take 10 (.take 11 (.take 12 (.take 13 (.take 14 (.take 15 (.take 16 (.take 17 (.take 18 (.all [(19, .all [(20, .all [(21, .take 22 (.all [(23, .done)]))])])])))))))))))))))))))) ?_
          (repeat' (first | (show TL _ _ _ _ (_ :: _) _ _ _; first | refine TL.sa ?_ | (refine TL.na ?_; intro _)) | (first | refine Stp.h ?_ | refine Post.then_normal ?_ | refine Post.next ?_ | refine Post.block_other rfl ?_) | (show TT _ _ _ _ _ _ _ _ _; refine TT.sa ?_) | exact TTs.nil | refine TTs.cons ?_ ?_ | (show T1 _ _ _ _ _ _ _ _ _ _; first | refine T1.sa ?_ | (refine T1.na ?_; intro _)) | (show TC _ _ _ _ _ _ _ _ _ _; first | refine TC.goa ?_ | refine TC.fina ?_) | refine Tri.ca ?_))
          rw [e1]
          (repeat' (first | (show TL _ _ _ _ (_ :: _) _ _ _; first | refine TL.sa ?_ | (refine TL.na ?_; intro _)) | (first | refine Stp.h ?_ | refine Post.then_normal ?_ | refine Post.next ?_ | refine Post.block_other rfl ?_) | (show TT _ _ _ _ _ _ _ _ _; refine TT.sa ?_) | exact TTs.nil | refine TTs.cons ?_ ?_ | (show T1 _ _ _ _ _ _ _ _ _ _; first | refine T1.sa ?_ | (refine T1.na ?_; intro _)) | (show TC _ _ _ _ _ _ _ _ _ _; first | refine TC.goa ?_ | refine TC.fina ?_) | refine Tri.ca ?_))
          rw [e2]
          (repeat' (first | (show TL _ _ _ _ (_ :: _) _ _ _; first | refine TL.sa ?_ | (refine TL.na ?_; intro _)) | (first | refine Stp.h ?_ | refine Post.then_normal ?_ | refine Post.next ?_ | refine Post.block_other rfl ?_) | (show TT _ _ _ _ _ _ _ _ _; refine TT.sa ?_) | exact TTs.nil | refine TTs.cons ?_ ?_ | (show T1 _ _ _ _ _ _ _ _ _ _; first | refine T1.sa ?_ | (refine T1.na ?_; intro _)) | (show TC _ _ _ _ _ _ _ _ _ _; first | refine TC.goa ?_ | refine TC.fina ?_) | refine Tri.ca ?_))
          refine T1.call rfl rfl rfl rfl (madeRef_ok ⟨z0, z1, z2, z3, z4, z5⟩) ?_
          rintro _ _ ⟨rfl, rfl⟩
          rw [hpv] at hs
          generalize colorV y0 y1 y2 = cv at hs ⊢
          obtain ⟨cx, cy, cz⟩ := cv
          (repeat' (first | (show TL _ _ _ _ (_ :: _) _ _ _; first | refine TL.sa ?_ | (refine TL.na ?_; intro _)) | (first | refine Stp.h ?_ | refine Post.then_normal ?_ | refine Post.next ?_ | refine Post.block_other rfl ?_) | (show TT _ _ _ _ _ _ _ _ _; refine TT.sa ?_) | exact TTs.nil | refine TTs.cons ?_ ?_ | (show T1 _ _ _ _ _ _ _ _ _ _; first | refine T1.sa ?_ | (refine T1.na ?_; intro _)) | (show TC _ _ _ _ _ _ _ _ _ _; first | refine TC.goa ?_ | refine TC.fina ?_) | refine Tri.ca ?_))
          rename_i v9
          refine Post.round (n + 1, v9) (by simp only; omega) (by simp only; omega) (by (exact Sub.au)) ?_
          simp only
          rw [hs]
          (exact Ents.au)
        · have hnl : n = (nodesF a b c).length := by omega
          subst hnl
          rw [show (((nodesF a b c).length, pv).1) = (nodesF a b c).length from rfl, ← hPl, List.take_length]
          have hside0 : ∀ (E : List Ent) [RdIn E q V3 cV3 (nodesF a b c)] (ax : Nat), ax < 3 → CallsS Tryz.prog w0 37 [q, .agg #[.int .i64 (a : Int), .int .i64 (b : Int), .int .i64 (c : Int)], .int .i64 (ax : Int), .int .i64 0] E fun u Bs => Bs = .ow cV3 27 u (sideF a b c ax 0) :: E := fun E _ ax hax => by
            have := sideRef_ok (w0 := w0) (As := E) (lv := q) (a := a) (b := b) (c := c) (ax := ax) (en := 0) (sz := size3 a b c ax) hax (by omega) (by omega) (by omega) (by omega) (by omega) (by omega) (by omega) h300 rfl
            rw [Nat.zero_mul] at this
            exact this
          have hside1 : ∀ (E : List Ent) [RdIn E q V3 cV3 (nodesF a b c)] (ax : Nat), ax < 3 → CallsS Tryz.prog w0 37 [q, .agg #[.int .i64 (a : Int), .int .i64 (b : Int), .int .i64 (c : Int)], .int .i64 (ax : Int), .int .i64 ((size3 a b c ax - 1 : Nat) : Int)] E fun u Bs => Bs = .ow cV3 27 u (sideF a b c ax 1) :: E := fun E _ ax hax => by
            have := sideRef_ok (w0 := w0) (As := E) (lv := q) (a := a) (b := b) (c := c) (ax := ax) (en := 1) (sz := size3 a b c ax) hax (by omega) (by omega) (by omega) (by omega) (by omega) (by omega) (by omega) h300 rfl
            rw [Nat.one_mul] at this
            exact this
          (repeat' (first | (show TL _ _ _ _ (_ :: _) _ _ _; first | refine TL.sa ?_ | (refine TL.na ?_; intro _)) | (first | refine Stp.h ?_ | refine Post.then_normal ?_ | refine Post.next ?_ | refine Post.block_other rfl ?_) | refine Tri.ca ?_))
          refine Tri.ents (Ents.nilW (T := 27) cV3) ?_
          refine Tri.unroll 4 ?_
          (repeat' (first | (show TL _ _ _ _ (_ :: _) _ _ _; first | refine TL.sa ?_ | (refine TL.na ?_; intro _)) | (first | refine Stp.h ?_ | refine Post.then_normal ?_ | refine Post.next ?_ | refine Post.block_other rfl ?_) | refine Tri.ca ?_))
          have hall : shellF a b c = [] ++ sideF a b c 0 0 ++ sideF a b c 0 1 ++ sideF a b c 1 0 ++ sideF a b c 1 1 ++ sideF a b c 2 0 ++ sideF a b c 2 1 := by
            unfold shellF
            rw [sidesP_succ, sidesP_succ, sidesP_succ, sidesP_succ, sidesP_succ, sidesP_succ]; rfl
          have hsl : ∀ ax en, (sideF a b c ax en).length ≤ 128 := fun ax en => by
            have hsz : ∀ ax, size3 a b c ax - 1 ≤ 8 := fun ax => by
              unfold size3
              split
              · omega
              · split <;> omega
            have := Nat.mul_le_mul (hsz (ax1 ax)) (hsz (ax2 ax))
            unfold sideF
            rw [sideP_len]; omega
          refine Tri.dw (.cl b7 [pv, .slice none 0 0] 36 :: .cl b5 [.int .i64 (a : Int), .int .i64 (b : Int), .int .i64 (c : Int)] 27 :: []) [] (.take 0 (.take 1 (.take 2 (.take 3 (.take 4 (.all [(5, .all [(6, .take 7 (.all [(8, .done)]))])])))))) ?_
          (repeat' (first | (show TL _ _ _ _ (_ :: _) _ _ _; first | refine TL.sa ?_ | (refine TL.na ?_; intro _)) | (first | refine Stp.h ?_ | refine Post.then_normal ?_ | refine Post.next ?_ | refine Post.block_other rfl ?_) | (show TT _ _ _ _ _ _ _ _ _; refine TT.sa ?_) | exact TTs.nil | refine TTs.cons ?_ ?_ | (show T1 _ _ _ _ _ _ _ _ _ _; first | refine T1.sa ?_ | (refine T1.na ?_; intro _)) | (show TC _ _ _ _ _ _ _ _ _ _; first | refine TC.goa ?_ | refine TC.fina ?_) | refine Tri.ca ?_))
          refine T1.call rfl rfl rfl rfl (hside0 _ 0 (by omega)) ?_
          rintro g1 _ rfl
          have l1 := hsl 0 0
          generalize sideF a b c 0 0 = G1 at hall l1 ⊢
          (repeat' (first | (show TL _ _ _ _ (_ :: _) _ _ _; first | refine TL.sa ?_ | (refine TL.na ?_; intro _)) | (first | refine Stp.h ?_ | refine Post.then_normal ?_ | refine Post.next ?_ | refine Post.block_other rfl ?_) | (show TT _ _ _ _ _ _ _ _ _; refine TT.sa ?_) | exact TTs.nil | refine TTs.cons ?_ ?_ | (show T1 _ _ _ _ _ _ _ _ _ _; first | refine T1.sa ?_ | (refine T1.na ?_; intro _)) | (show TC _ _ _ _ _ _ _ _ _ _; first | refine TC.goa ?_ | refine TC.fina ?_) | refine Tri.ca ?_))
          rename_i v1
          refine Tri.dw (.cl b7 [pv, v1] 36 :: .cl b5 [.int .i64 (a : Int), .int .i64 (b : Int), .int .i64 (c : Int)] 27 :: []) [] (.take 0 (.take 1 (.take 2 (.take 3 (.take 4 (.take 5 (.take 6 (.take 7 (.take 8 (.all [(9, .all [(10, .take 11 (.all [(12, .done)]))])])))))))))) ?_
          (repeat' (first | (show TL _ _ _ _ (_ :: _) _ _ _; first | refine TL.sa ?_ | (refine TL.na ?_; intro _)) | (first | refine Stp.h ?_ | refine Post.then_normal ?_ | refine Post.next ?_ | refine Post.block_other rfl ?_) | (show TT _ _ _ _ _ _ _ _ _; refine TT.sa ?_) | exact TTs.nil | refine TTs.cons ?_ ?_ | (show T1 _ _ _ _ _ _ _ _ _ _; first | refine T1.sa ?_ | (refine T1.na ?_; intro _)) | (show TC _ _ _ _ _ _ _ _ _ _; first | refine TC.goa ?_ | refine TC.fina ?_) | refine Tri.ca ?_))
          refine T1.call rfl rfl rfl rfl (hside1 _ 0 (by omega)) ?_
          rintro g2 _ rfl
          have l2 := hsl 0 1
          generalize sideF a b c 0 1 = G2 at hall l2 ⊢
          (repeat' (first | (show TL _ _ _ _ (_ :: _) _ _ _; first | refine TL.sa ?_ | (refine TL.na ?_; intro _)) | (first | refine Stp.h ?_ | refine Post.then_normal ?_ | refine Post.next ?_ | refine Post.block_other rfl ?_) | (show TT _ _ _ _ _ _ _ _ _; refine TT.sa ?_) | exact TTs.nil | refine TTs.cons ?_ ?_ | (show T1 _ _ _ _ _ _ _ _ _ _; first | refine T1.sa ?_ | (refine T1.na ?_; intro _)) | (show TC _ _ _ _ _ _ _ _ _ _; first | refine TC.goa ?_ | refine TC.fina ?_) | refine Tri.ca ?_))
          rename_i v2
          refine Tri.dw (.cl b7 [pv, v2] 36 :: .cl b5 [.int .i64 (a : Int), .int .i64 (b : Int), .int .i64 (c : Int)] 27 :: []) [] (.take 0 (.take 1 (.take 2 (.take 3 (.take 4 (.all [(5, .all [(6, .take 7 (.all [(8, .done)]))])])))))) ?_
          (repeat' (first | (show TL _ _ _ _ (_ :: _) _ _ _; first | refine TL.sa ?_ | (refine TL.na ?_; intro _)) | (first | refine Stp.h ?_ | refine Post.then_normal ?_ | refine Post.next ?_ | refine Post.block_other rfl ?_) | (show TT _ _ _ _ _ _ _ _ _; refine TT.sa ?_) | exact TTs.nil | refine TTs.cons ?_ ?_ | (show T1 _ _ _ _ _ _ _ _ _ _; first | refine T1.sa ?_ | (refine T1.na ?_; intro _)) | (show TC _ _ _ _ _ _ _ _ _ _; first | refine TC.goa ?_ | refine TC.fina ?_) | refine Tri.ca ?_))
          refine T1.call rfl rfl rfl rfl (hside0 _ 1 (by omega)) ?_
          rintro g3 _ rfl
          have l3 := hsl 1 0
          generalize sideF a b c 1 0 = G3 at hall l3 ⊢
          (repeat' (first | (show TL _ _ _ _ (_ :: _) _ _ _; first | refine TL.sa ?_ | (refine TL.na ?_; intro _)) | (first | refine Stp.h ?_ | refine Post.then_normal ?_ | refine Post.next ?_ | refine Post.block_other rfl ?_) | (show TT _ _ _ _ _ _ _ _ _; refine TT.sa ?_) | exact TTs.nil | refine TTs.cons ?_ ?_ | (show T1 _ _ _ _ _ _ _ _ _ _; first | refine T1.sa ?_ | (refine T1.na ?_; intro _)) | (show TC _ _ _ _ _ _ _ _ _ _; first | refine TC.goa ?_ | refine TC.fina ?_) | refine Tri.ca ?_))
          rename_i v3
          refine Tri.dw (.cl b7 [pv, v3] 36 :: .cl b5 [.int .i64 (a : Int), .int .i64 (b : Int), .int .i64 (c : Int)] 27 :: []) [] (.take 0 (.take 1 (.take 2 (.take 3 (.take 4 (.take 5 (.take 6 (.take 7 (.take 8 (.all [(9, .all [(10, .take 11 (.all [(12, .done)]))])])))))))))) ?_
          (repeat' (first | (show TL _ _ _ _ (_ :: _) _ _ _; first | refine TL.sa ?_ | (refine TL.na ?_; intro _)) | (first | refine Stp.h ?_ | refine Post.then_normal ?_ | refine Post.next ?_ | refine Post.block_other rfl ?_) | (show TT _ _ _ _ _ _ _ _ _; refine TT.sa ?_) | exact TTs.nil | refine TTs.cons ?_ ?_ | (show T1 _ _ _ _ _ _ _ _ _ _; first | refine T1.sa ?_ | (refine T1.na ?_; intro _)) | (show TC _ _ _ _ _ _ _ _ _ _; first | refine TC.goa ?_ | refine TC.fina ?_) | refine Tri.ca ?_))
          refine T1.call rfl rfl rfl rfl (hside1 _ 1 (by omega)) ?_
          rintro g4 _ rfl
          have l4 := hsl 1 1
          generalize sideF a b c 1 1 = G4 at hall l4 ⊢
          (repeat' (first | (show TL _ _ _ _ (_ :: _) _ _ _; first | refine TL.sa ?_ | (refine TL.na ?_; intro _)) | (first | refine Stp.h ?_ | refine Post.then_normal ?_ | refine Post.next ?_ | refine Post.block_other rfl ?_) | (show TT _ _ _ _ _ _ _ _ _; refine TT.sa ?_) | exact TTs.nil | refine TTs.cons ?_ ?_ | (show T1 _ _ _ _ _ _ _ _ _ _; first | refine T1.sa ?_ | (refine T1.na ?_; intro _)) | (show TC _ _ _ _ _ _ _ _ _ _; first | refine TC.goa ?_ | refine TC.fina ?_) | refine Tri.ca ?_))
          rename_i v4
          refine Tri.dw (.cl b7 [pv, v4] 36 :: .cl b5 [.int .i64 (a : Int), .int .i64 (b : Int), .int .i64 (c : Int)] 27 :: []) [] (.take 0 (.take 1 (.take 2 (.take 3 (.take 4 (.all [(5, .all [(6, .take 7 (.all [(8, .done)]))])])))))) ?_
          (repeat' (first | (show TL _ _ _ _ (_ :: _) _ _ _; first | refine TL.sa ?_ | (refine TL.na ?_; intro _)) | (first | refine Stp.h ?_ | refine Post.then_normal ?_ | refine Post.next ?_ | refine Post.block_other rfl ?_) | (show TT _ _ _ _ _ _ _ _ _; refine TT.sa ?_) | exact TTs.nil | refine TTs.cons ?_ ?_ | (show T1 _ _ _ _ _ _ _ _ _ _; first | refine T1.sa ?_ | (refine T1.na ?_; intro _)) | (show TC _ _ _ _ _ _ _ _ _ _; first | refine TC.goa ?_ | refine TC.fina ?_) | refine Tri.ca ?_))
          refine T1.call rfl rfl rfl rfl (hside0 _ 2 (by omega)) ?_
          rintro g5 _ rfl
          have l5 := hsl 2 0
          generalize sideF a b c 2 0 = G5 at hall l5 ⊢
          (repeat' (first | (show TL _ _ _ _ (_ :: _) _ _ _; first | refine TL.sa ?_ | (refine TL.na ?_; intro _)) | (first | refine Stp.h ?_ | refine Post.then_normal ?_ | refine Post.next ?_ | refine Post.block_other rfl ?_) | (show TT _ _ _ _ _ _ _ _ _; refine TT.sa ?_) | exact TTs.nil | refine TTs.cons ?_ ?_ | (show T1 _ _ _ _ _ _ _ _ _ _; first | refine T1.sa ?_ | (refine T1.na ?_; intro _)) | (show TC _ _ _ _ _ _ _ _ _ _; first | refine TC.goa ?_ | refine TC.fina ?_) | refine Tri.ca ?_))
          rename_i v5
          refine Tri.dw (.cl b7 [pv, v5] 36 :: .cl b5 [.int .i64 (a : Int), .int .i64 (b : Int), .int .i64 (c : Int)] 27 :: []) [] (.take 0 (.take 1 (.take 2 (.take 3 (.take 4 (.take 5 (.take 6 (.take 7 (.take 8 (.all [(9, .all [(10, .take 11 (.all [(12, .done)]))])])))))))))) ?_
          (repeat' (first | (show TL _ _ _ _ (_ :: _) _ _ _; first | refine TL.sa ?_ | (refine TL.na ?_; intro _)) | (first | refine Stp.h ?_ | refine Post.then_normal ?_ | refine Post.next ?_ | refine Post.block_other rfl ?_) | (show TT _ _ _ _ _ _ _ _ _; refine TT.sa ?_) | exact TTs.nil | refine TTs.cons ?_ ?_ | (show T1 _ _ _ _ _ _ _ _ _ _; first | refine T1.sa ?_ | (refine T1.na ?_; intro _)) | (show TC _ _ _ _ _ _ _ _ _ _; first | refine TC.goa ?_ | refine TC.fina ?_) | refine Tri.ca ?_))
          refine T1.call rfl rfl rfl rfl (hside1 _ 2 (by omega)) ?_
          rintro g6 _ rfl
          have l6 := hsl 2 1
          generalize sideF a b c 2 1 = G6 at hall l6 ⊢
          (repeat' (first | (show TL _ _ _ _ (_ :: _) _ _ _; first | refine TL.sa ?_ | (refine TL.na ?_; intro _)) | (first | refine Stp.h ?_ | refine Post.then_normal ?_ | refine Post.next ?_ | refine Post.block_other rfl ?_) | (show TT _ _ _ _ _ _ _ _ _; refine TT.sa ?_) | exact TTs.nil | refine TTs.cons ?_ ?_ | (show T1 _ _ _ _ _ _ _ _ _ _; first | refine T1.sa ?_ | (refine T1.na ?_; intro _)) | (show TC _ _ _ _ _ _ _ _ _ _; first | refine TC.goa ?_ | refine TC.fina ?_) | refine Tri.ca ?_))
          rename_i v6
          refine TL.ents (Ents.of_cov (Bs := .cl b7 [pv, v6] 36 :: .ow cV3 27 v6 (shellF a b c) :: .ow cV3 27 pv (shellP D a b c) :: .cl b2 [.slice none 0 0, .slice none 0 0] 36 :: As) (by rw [hall]; infer_instance)) ?_
          have hPl3 : (shellP D a b c).length ≤ 300 := by omega
          have hFl : (shellF a b c).length ≤ 1000 := by
            rw [hall]
            simp only [List.length_append, List.length_nil]
            omega
          clear hside0 hside1 hPs hsl hall hnode
          generalize shellP D a b c = P at hPl3 ⊢
          generalize shellF a b c = F at hFl ⊢
          refine TL.call rfl rfl rfl (volume6R_ok (pts := P) (fcs := F)) ?_
          rintro _ _ ⟨rfl, rfl⟩
          by_cases hk : okM P F
          · rw [if_pos hk, if_pos hk]
            have hg2 := okM_good.1 hk
            (repeat' (first | (show TL _ _ _ _ (_ :: _) _ _ _; first | refine TL.sa ?_ | (refine TL.na ?_; intro _)) | (first | refine Stp.h ?_ | refine Post.then_normal ?_ | refine Post.next ?_ | refine Post.block_other rfl ?_) | (show TT _ _ _ _ _ _ _ _ _; refine TT.sa ?_) | exact TTs.nil | refine TTs.cons ?_ ?_ | (show T1 _ _ _ _ _ _ _ _ _ _; first | refine T1.sa ?_ | (refine T1.na ?_; intro _)) | (show TC _ _ _ _ _ _ _ _ _ _; first | refine TC.goa ?_ | refine TC.fina ?_) | refine Tri.ca ?_))
            refine TL.call rfl rfl rfl (signR_ok (by rw [textI_len]; have := vol_digits hg2; split <;> omega)) ?_
            rintro _ _ ⟨rfl, rfl⟩
            rw [signW_text (vol_digits hg2)]
            (repeat' (first | (show TL _ _ _ _ (_ :: _) _ _ _; first | refine TL.sa ?_ | (refine TL.na ?_; intro _)) | (first | refine Stp.h ?_ | refine Post.then_normal ?_ | refine Post.next ?_ | refine Post.block_other rfl ?_) | refine Tri.ca ?_))
            by_cases hv : volM P F < 0
            · rw [if_pos hv, show signI (volM P F) = -1 from if_pos hv]
              (repeat' (first | (show TL _ _ _ _ (_ :: _) _ _ _; first | refine TL.sa ?_ | (refine TL.na ?_; intro _)) | (first | refine Stp.h ?_ | refine Post.then_normal ?_ | refine Post.next ?_ | refine Post.block_other rfl ?_) | refine Tri.ca ?_))
              refine TL.call rfl rfl rfl (turnedR_ok (pts := P) (fcs := F)) ?_
              intro _ _ h
              obtain ⟨pt, ft, rfl, t1, t2, rfl⟩ := meshR_eq (show turnedM P F = (0, P, F.map swapF) from if_pos hk) h
              (repeat' (first | (show TL _ _ _ _ (_ :: _) _ _ _; first | refine TL.sa ?_ | (refine TL.na ?_; intro _)) | (first | refine Stp.h ?_ | refine Post.then_normal ?_ | refine Post.next ?_ | refine Post.block_other rfl ?_) | refine Tri.ca ?_))
              (refine Post.ra ?_)
              exact ⟨_, ⟨pt, ft, rfl, t1, t2, rfl⟩, by (exact Ents.au)⟩
            · rw [if_neg hv]
              have hsg : ¬ signI (volM P F) < 0 := by unfold signI; rw [if_neg hv]; split <;> omega
              (repeat' (first | (show TL _ _ _ _ (_ :: _) _ _ _; first | refine TL.sa ?_ | (refine TL.na ?_; intro _)) | (first | refine Stp.h ?_ | refine Post.then_normal ?_ | refine Post.next ?_ | refine Post.block_other rfl ?_) | refine Tri.ca ?_))
              refine TL.rdSl (c := cV3) (xs := P) pv ?_
              rintro pp pc rfl
              refine TL.rdSl (c := cV3) (xs := F) v6 ?_
              rintro fp fc rfl
              (repeat' (first | (show TL _ _ _ _ (_ :: _) _ _ _; first | refine TL.sa ?_ | (refine TL.na ?_; intro _)) | (first | refine Stp.h ?_ | refine Post.then_normal ?_ | refine Post.next ?_ | refine Post.block_other rfl ?_) | refine Tri.ca ?_))
              (refine Post.ra ?_)
              exact ⟨_, ⟨_, _, rfl, rfl, rfl, rfl⟩, by (exact Ents.au)⟩
          · rw [if_neg hk, if_neg hk]
            (repeat' (first | (show TL _ _ _ _ (_ :: _) _ _ _; first | refine TL.sa ?_ | (refine TL.na ?_; intro _)) | (first | refine Stp.h ?_ | refine Post.then_normal ?_ | refine Post.next ?_ | refine Post.block_other rfl ?_) | refine Tri.ca ?_))
            (refine Post.ra ?_)
            obtain ⟨As', h3, h4⟩ := meshR_none (As := As) (r := 5)
            exact ⟨As', h3, Ents.trans (by (exact Ents.au)) h4⟩
    · rw [shellR_size hg h3]
      (first | refine TL.gsplit rfl rfl (fun hgs => ?_) (fun hgs => ?_) | refine TL.gsplitN rfl rfl (fun hgs => ?_) (fun hgs => ?_) | refine TT.gsplit rfl rfl rfl (fun hgs => ?_) (fun hgs => ?_) | refine TT.gsplitN rfl rfl rfl (fun hgs => ?_) (fun hgs => ?_))
      · (repeat' (first | (show TL _ _ _ _ (_ :: _) _ _ _; first | refine TL.sa ?_ | (refine TL.na ?_; intro _)) | (first | refine Stp.h ?_ | refine Post.then_normal ?_ | refine Post.next ?_ | refine Post.block_other rfl ?_) | refine Tri.ca ?_))
        (refine Post.ra ?_)
        obtain ⟨As', h3, h4⟩ := meshR_none (As := As) (r := 2)
        exact ⟨As', h3, Ents.trans (by (exact Ents.au)) h4⟩
      · (repeat' (first | (show TL _ _ _ _ (_ :: _) _ _ _; first | refine TL.sa ?_ | (refine TL.na ?_; intro _)) | (first | refine Stp.h ?_ | refine Post.then_normal ?_ | refine Post.next ?_ | refine Post.block_other rfl ?_) | refine Tri.ca ?_))
        (refine Post.ra ?_)
        obtain ⟨As', h3, h4⟩ := meshR_none (As := As) (r := 2)
        exact ⟨As', h3, Ents.trans (by (exact Ents.au)) h4⟩
  · rw [if_neg hg]
    (repeat' (first | (show TL _ _ _ _ (_ :: _) _ _ _; first | refine TL.sa ?_ | (refine TL.na ?_; intro _)) | (first | refine Stp.h ?_ | refine Post.then_normal ?_ | refine Post.next ?_ | refine Post.block_other rfl ?_) | refine Tri.ca ?_))
    (refine Post.ra ?_)
    rw [shellR_no hg]
    obtain ⟨As', h3, h4⟩ := meshR_none (As := As) (r := 100)
    exact ⟨As', h3, Ents.trans (by (exact Ents.au)) h4⟩
end Go.Proofs.YtjpghlljcibcjaaGreatDoor
