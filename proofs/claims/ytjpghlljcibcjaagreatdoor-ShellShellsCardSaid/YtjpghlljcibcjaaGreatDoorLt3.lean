/- Walks: ShellShells. -/
import Derived.Test.YtjpghlljcibcjaaGreatDoorLu0
import Derived.Test.YtjpghlljcibcjaaGreatDoorLs6
import Derived.Test.YtjpghlljcibcjaaGreatDoorLs0
import Derived.Test.YtjpghlljcibcjaaGreatDoorSw8
namespace Go.Sx
open Go
theorem shellR_len {S D : List Int} {out : Int} : (shellR S out D).2.1.length ≤ 300 ∧ (shellR S out D).2.2.length ≤ 600 := by
  unfold shellR
  split
  · split
    · split
      · unfold shellM
        split
        · simp
        · split
          · rename_i h
            have hg := okM_good.1 h
            refine ⟨hg.p300, ?_⟩
            dsimp only
            split
            · rw [List.length_map]; exact hg.f600
            · exact hg.f600
          · simp
      · simp
    · simp
  · simp
end Go.Sx
namespace Go.Proofs.YtjpghlljcibcjaaGreatDoor
open Go Go.Sx
variable {w0 : World} {As : List Ent}
set_option maxRecDepth 100000 in
set_option maxHeartbeats 16000000 in
theorem shellShells_ok (ht : Tab w0) (d : D37A) (hd : d.ok) (g : G10A) (hg : g.ok) {at_ : Nat} (hat : at_ < 65536) {to_ : Int} {what : Nat} (hw : what < 256) [hs : RdIn As g.sv Int (cI .u8) g.S] [hv : RdIn As g.vv Int (cI .u16) g.V] :
    CallsS Tryz.prog w0 4 [.agg d.cells.toArray, .agg g.cells.toArray, .int .u16 (at_ : Int), .int .i64 to_, .int .u8 (what : Int)] As fun u _ => u = .bool true := by
  have hz := d.szOk
  have hgr := fun As : List Ent => grid37_ok (w0 := w0) (As := As) d hd
  have hDl : (gridD d.d d.a d.b d.c).length = 3 * (d.a * d.b * d.c) := gridP_len
  have hsm : d.a * d.b * d.c ≤ 80 := Nat.mul_le_mul (Nat.mul_le_mul hz.a5 hz.b4) hz.c4
  have hsm0 : 2 * 2 * 2 ≤ d.a * d.b * d.c := Nat.mul_le_mul (Nat.mul_le_mul hz.a2 hz.b2) hz.c2
  have hSl : [(d.a : Int), (d.b : Int), (d.c : Int)].length = 3 := rfl
  generalize gridD d.d d.a d.b d.c = D at hgr hDl
  unfold GridR at hgr
  generalize [(d.a : Int), (d.b : Int), (d.c : Int)] = S at hgr hSl
  refine CallsS.rdOne g.sv fun hv1 => CallsS.rdOne g.vv fun hv2 => ?_
  refine CallsS.of_tri Tryz.func4 rfl Tryz.ntmps4 rfl ?_
  simp only [D37A.cells, G10A.cells]
  (repeat' (first | (show TL _ _ _ _ (_ :: _) _ _ _; first | refine TL.sa ?_ | (refine TL.na ?_; intro _)) | (first | refine Stp.h ?_ | refine Post.then_normal ?_ | refine Post.next ?_ | refine Post.block_other rfl ?_) | refine Tri.ca ?_))
  refine TL.callv rfl rfl rfl rfl (hgr _) ?_
  rintro _ _ ⟨sv, dv, rfl, rfl⟩
  refine TL.rdSl (c := cI .i64) (xs := D) dv ?_
  rintro dp dc rfl
  refine TL.rdSl (c := cI .i64) (xs := S) sv ?_
  rintro sp sc rfl
  rw [hSl]
  (repeat' (first | (show TL _ _ _ _ (_ :: _) _ _ _; first | refine TL.sa ?_ | (refine TL.na ?_; intro _)) | (first | refine Stp.h ?_ | refine Post.then_normal ?_ | refine Post.next ?_ | refine Post.block_other rfl ?_) | refine Tri.ca ?_))
  rename_i b5 b6 b11
  have hS4 : ([] ++ S : List Int).length = 3 := by simpa using hSl
  have hD4 : ([] ++ D : List Int).length = D.length := by simp
  refine Tri.mid (fun e' As' => ∃ p1 c1 p2 c2 b12, e' = [(2, .int .u16 (at_ : Int)), (3, .int .i64 to_), (4, .int .u8 (what : Int)), (6, .pointer (some ⟨b6, 0, none⟩)), (11, .pointer (some ⟨b11, 0, none⟩)), (12, .pointer (some ⟨b12, 0, none⟩))] ∧
    As' = .cl b12 [.slice p1 3 c1, .int .i64 3, .slice p2 D.length c2] 46 :: .ow (cI .i64) 3 (.slice p1 3 c1) S :: .ow (cI .i64) 3 (.slice p2 D.length c2) D :: .cl b11 [.slice sp 3 sc, .int .i64 3, .slice dp D.length dc] 46 :: .ow (cI .i64) 3 (.slice dp D.length dc) D :: .ow (cI .i64) 3 (.slice sp 3 sc) S :: .cl b6 [g.sv, .int .u8 (g.ou : Int), g.vv, .bool g.sm] 44 :: As) ?_ ?_
  · refine Tri.dw (.cl b11 [.slice sp 3 sc, .int .i64 3, .slice dp D.length dc] 46 :: .ow (cI .i64) 3 (.slice dp D.length dc) D :: .ow (cI .i64) 3 (.slice sp 3 sc) S :: []) [] (.take 1 (.take 2 (.take 4 (.take 5 (.take 7 (.take 8 (.all [(0, .all [(3, .all [(6, .all [(9, .take 10 (.all [(11, .all [(12, .done)])])), (11, .all [(9, .take 10 (.all [(12, .done)]))])]), (11, .all [(6, .all [(9, .take 10 (.all [(12, .done)]))])])]), (6, .all [(3, .all [(9, .take 10 (.all [(11, .all [(12, .done)])])), (11, .all [(9, .take 10 (.all [(12, .done)]))])]), (11, .all [(3, .all [(9, .take 10 (.all [(12, .done)]))])])]), (11, .all [(3, .all [(6, .all [(9, .take 10 (.all [(12, .done)]))])]), (6, .all [(3, .all [(9, .take 10 (.all [(12, .done)]))])])])]), (6, .all [(0, .all [(3, .all [(9, .take 10 (.all [(11, .all [(12, .done)])])), (11, .all [(9, .take 10 (.all [(12, .done)]))])]), (11, .all [(3, .all [(9, .take 10 (.all [(12, .done)]))])])]), (11, .all [(0, .all [(3, .all [(9, .take 10 (.all [(12, .done)]))])])])]), (11, .all [(0, .all [(3, .all [(6, .all [(9, .take 10 (.all [(12, .done)]))])]), (6, .all [(3, .all [(9, .take 10 (.all [(12, .done)]))])])]), (6, .all [(0, .all [(3, .all [(9, .take 10 (.all [(12, .done)]))])])])])]))))))) ?_
    (repeat' (first | (show TL _ _ _ _ (_ :: _) _ _ _; first | refine TL.sa ?_ | (refine TL.na ?_; intro _)) | (first | refine Stp.h ?_ | refine Post.then_normal ?_ | refine Post.next ?_ | refine Post.block_other rfl ?_) | (show TT _ _ _ _ _ _ _ _ _; refine TT.sa ?_) | exact TTs.nil | refine TTs.cons ?_ ?_ | (show T1 _ _ _ _ _ _ _ _ _ _; first | refine T1.sa ?_ | (refine T1.na ?_; intro _)) | (show TC _ _ _ _ _ _ _ _ _ _; first | refine TC.goa ?_ | refine TC.fina ?_) | refine Tri.ca ?_))
    all_goals
      refine TT.rdAt 27 rfl ?_
      rintro p1 c1 rfl
      refine TT.rdAt 33 rfl ?_
      rintro p2 c2 rfl
      rw [hSl]
      (repeat' (first | (show TL _ _ _ _ (_ :: _) _ _ _; first | refine TL.sa ?_ | (refine TL.na ?_; intro _)) | (first | refine Stp.h ?_ | refine Post.then_normal ?_ | refine Post.next ?_ | refine Post.block_other rfl ?_) | (show TT _ _ _ _ _ _ _ _ _; refine TT.sa ?_) | exact TTs.nil | refine TTs.cons ?_ ?_ | (show T1 _ _ _ _ _ _ _ _ _ _; first | refine T1.sa ?_ | (refine T1.na ?_; intro _)) | (show TC _ _ _ _ _ _ _ _ _ _; first | refine TC.goa ?_ | refine TC.fina ?_) | refine Tri.ca ?_))
    all_goals exact Post.cut _ _ ⟨p1, c1, p2, c2, _, rfl, rfl⟩ (by (exact Sub.au)) (by (exact Ents.au))
  rintro _ _ ⟨p1, c1, p2, c2, b12, rfl, rfl⟩
  have hD0 : 0 < D.length := by omega
  have hDle : D.length ≤ 240 := by omega
  obtain ⟨m3, hm3⟩ : ∃ m3, D.length = 3 * m3 := ⟨_, hDl⟩
  clear hDl hsm0 hsm
  have ek : (at_ : Int) % (D.length : Int) = ((at_ % D.length : Nat) : Int) := by push_cast; rfl
  have hk := Nat.mod_lt at_ hD0
  have ew : (what : Int) % 6 = ((what % 6 : Nat) : Int) := by omega
  have hw6 := Nat.mod_lt what (show 0 < 6 by decide)
  (repeat' (first | (show TL _ _ _ _ (_ :: _) _ _ _; first | refine TL.sa ?_ | (refine TL.na ?_; intro _)) | (first | refine Stp.h ?_ | refine Post.then_normal ?_ | refine Post.next ?_ | refine Post.block_other rfl ?_) | (show TT _ _ _ _ _ _ _ _ _; refine TT.sa ?_) | exact TTs.nil | refine TTs.cons ?_ ?_ | (show T1 _ _ _ _ _ _ _ _ _ _; first | refine T1.sa ?_ | (refine T1.na ?_; intro _)) | (show TC _ _ _ _ _ _ _ _ _ _; first | refine TC.goa ?_ | refine TC.fina ?_) | refine Tri.ca ?_))
  rw [ek]
  generalize at_ % D.length = k at hk ek ⊢
  (repeat' (first | (show TL _ _ _ _ (_ :: _) _ _ _; first | refine TL.sa ?_ | (refine TL.na ?_; intro _)) | (first | refine Stp.h ?_ | refine Post.then_normal ?_ | refine Post.next ?_ | refine Post.block_other rfl ?_) | (show TT _ _ _ _ _ _ _ _ _; refine TT.sa ?_) | exact TTs.nil | refine TTs.cons ?_ ?_ | (show T1 _ _ _ _ _ _ _ _ _ _; first | refine T1.sa ?_ | (refine T1.na ?_; intro _)) | (show TC _ _ _ _ _ _ _ _ _ _; first | refine TC.goa ?_ | refine TC.fina ?_) | refine Tri.ca ?_))
  rw [ew]
  generalize what % 6 = w at hw6 ew ⊢
  (repeat' (first | (show TL _ _ _ _ (_ :: _) _ _ _; first | refine TL.sa ?_ | (refine TL.na ?_; intro _)) | (first | refine Stp.h ?_ | refine Post.then_normal ?_ | refine Post.next ?_ | refine Post.block_other rfl ?_) | (show TT _ _ _ _ _ _ _ _ _; refine TT.sa ?_) | exact TTs.nil | refine TTs.cons ?_ ?_ | (show T1 _ _ _ _ _ _ _ _ _ _; first | refine T1.sa ?_ | (refine T1.na ?_; intro _)) | (show TC _ _ _ _ _ _ _ _ _ _; first | refine TC.goa ?_ | refine TC.fina ?_) | refine Tri.ca ?_))
  refine Tri.midB (fun e' As' => ∃ (S' D' : List Int) (o' : Int), S'.length = 3 ∧ D'.length = D.length ∧ e' = [(6, .pointer (some ⟨b6, 0, none⟩)), (11, .pointer (some ⟨b11, 0, none⟩)), (12, .pointer (some ⟨b12, 0, none⟩))] ∧
    As' = .cl b12 [.slice p1 3 c1, .int .i64 o', .slice p2 D.length c2] 46 :: .ow (cI .i64) 3 (.slice p1 3 c1) S' :: .ow (cI .i64) 3 (.slice p2 D.length c2) D' :: .cl b11 [.slice sp 3 sc, .int .i64 3, .slice dp D.length dc] 46 :: .ow (cI .i64) 3 (.slice dp D.length dc) D :: .ow (cI .i64) 3 (.slice sp 3 sc) S :: .cl b6 [g.sv, .int .u8 (g.ou : Int), g.vv, .bool g.sm] 44 :: As) ?_ ?_
  · rcases (by omega : w = 0 ∨ w = 1 ∨ w = 2 ∨ w = 3 ∨ w = 4 ∨ w = 5) with rfl | rfl | rfl | rfl | rfl | rfl
    · (repeat' (first | (show TL _ _ _ _ (_ :: _) _ _ _; first | refine TL.sa ?_ | (refine TL.na ?_; intro _)) | (first | refine Stp.h ?_ | refine Post.then_normal ?_ | refine Post.next ?_ | refine Post.block_other rfl ?_) | (show TT _ _ _ _ _ _ _ _ _; refine TT.sa ?_) | exact TTs.nil | refine TTs.cons ?_ ?_ | (show T1 _ _ _ _ _ _ _ _ _ _; first | refine T1.sa ?_ | (refine T1.na ?_; intro _)) | (show TC _ _ _ _ _ _ _ _ _ _; first | refine TC.goa ?_ | refine TC.fina ?_) | refine Tri.ca ?_))
      exact Post.cut _ _ ⟨S, D.set k to_, 3, hSl, by rw [List.length_set], rfl, rfl⟩ (by (exact Sub.au)) (by (exact Ents.au))
    · (repeat' (first | (show TL _ _ _ _ (_ :: _) _ _ _; first | refine TL.sa ?_ | (refine TL.na ?_; intro _)) | (first | refine Stp.h ?_ | refine Post.then_normal ?_ | refine Post.next ?_ | refine Post.block_other rfl ?_) | refine Tri.ca ?_))
      exact Post.cut _ _ ⟨S, D.set k (IntKind.wrap .i64 ((IntKind.wrap .u64 to_).tmod 65536)), 3, hSl, by rw [List.length_set], rfl, rfl⟩ (by (exact Sub.au)) (by (exact Ents.au))
    · (repeat' (first | (show TL _ _ _ _ (_ :: _) _ _ _; first | refine TL.sa ?_ | (refine TL.na ?_; intro _)) | (first | refine Stp.h ?_ | refine Post.then_normal ?_ | refine Post.next ?_ | refine Post.block_other rfl ?_) | refine Tri.ca ?_))
      refine Tri.loop (ι := Nat × List Int) (fun s => s.1 ≤ 3 ∧ s.2.length = D.length) (fun s => 3 - s.1) (fun s => [(6, .pointer (some ⟨b6, 0, none⟩)), (11, .pointer (some ⟨b11, 0, none⟩)), (12, .pointer (some ⟨b12, 0, none⟩)), (13, .int .i64 (k : Int)), (62, .int .i64 (s.1 : Int))])
        (fun s => .cl b12 [.slice p1 3 c1, .int .i64 3, .slice p2 D.length c2] 46 :: .ow (cI .i64) 3 (.slice p1 3 c1) S :: .ow (cI .i64) 3 (.slice p2 D.length c2) s.2 :: .cl b11 [.slice sp 3 sc, .int .i64 3, .slice dp D.length dc] 46 :: .ow (cI .i64) 3 (.slice dp D.length dc) D :: .ow (cI .i64) 3 (.slice sp 3 sc) S :: .cl b6 [g.sv, .int .u8 (g.ou : Int), g.vv, .bool g.sm] 44 :: As) (0, D) ⟨Nat.zero_le _, rfl⟩ (by (exact Sub.au)) (by (exact Ents.au)) ?_
      rintro ⟨o, D'⟩ ⟨ho, hD'⟩
      simp only at ho hD'
      show Tri _ _ _ _ [(6, _), (11, _), (12, _), (13, _), (62, .int .i64 (o : Int))] (_ :: _ :: .ow _ _ _ D' :: _) _
      (repeat' (first | (show TL _ _ _ _ (_ :: _) _ _ _; first | refine TL.sa ?_ | (refine TL.na ?_; intro _)) | (first | refine Stp.h ?_ | refine Post.then_normal ?_ | refine Post.next ?_ | refine Post.block_other rfl ?_) | refine Tri.ca ?_))
      ((show Tri _ _ _ (.cond _ _ _) _ _ _; first | refine Tri.condP rfl (fun hc => ?_) (fun hc => ?_) | refine Tri.condN rfl (fun hc => ?_) (fun hc => ?_)))
      · obtain ⟨x, hx⟩ : ∃ x, D'[o]? = some x := ⟨_, List.getElem?_eq_getElem (by omega)⟩
        have e3 : (k : Int) / 3 * 3 + (o : Int) = ((k / 3 * 3 + o : Nat) : Int) := by omega
        have hlt : k / 3 * 3 + o < D'.length := by omega
        (repeat' (first | (show TL _ _ _ _ (_ :: _) _ _ _; first | refine TL.sa ?_ | (refine TL.na ?_; intro _)) | (first | refine Stp.h ?_ | refine Post.then_normal ?_ | refine Post.next ?_ | refine Post.block_other rfl ?_) | refine Tri.ca ?_))
        refine Tri.dr (.take 0 (.take 1 (.take 2 (.take 3 (.take 4 (.take 5 (.take 6 (.take 7 (.take 8 (.take 9 (.take 10 (.take 11 (.take 12 (.all [(13, .done)])))))))))))))) ?_
        (repeat' (first | (show TL _ _ _ _ (_ :: _) _ _ _; first | refine TL.sa ?_ | (refine TL.na ?_; intro _)) | (first | refine Stp.h ?_ | refine Post.then_normal ?_ | refine Post.next ?_ | refine Post.block_other rfl ?_) | (show TT _ _ _ _ _ _ _ _ _; refine TT.sa ?_) | exact TTs.nil | refine TTs.cons ?_ ?_ | (show T1 _ _ _ _ _ _ _ _ _ _; first | refine T1.sa ?_ | (refine T1.na ?_; intro _)) | (show TC _ _ _ _ _ _ _ _ _ _; first | refine TC.goa ?_ | refine TC.fina ?_) | refine Tri.ca ?_))
        exact Post.round (o + 1, D'.set (k / 3 * 3 + o) x) ⟨by simp only; omega, by simp only [List.length_set]; exact hD'⟩ (by simp only; omega) (by (exact Sub.au)) (by (exact Ents.au))
      · (repeat' (first | (show TL _ _ _ _ (_ :: _) _ _ _; first | refine TL.sa ?_ | (refine TL.na ?_; intro _)) | (first | refine Stp.h ?_ | refine Post.then_normal ?_ | refine Post.next ?_ | refine Post.block_other rfl ?_) | (show TT _ _ _ _ _ _ _ _ _; refine TT.sa ?_) | exact TTs.nil | refine TTs.cons ?_ ?_ | (show T1 _ _ _ _ _ _ _ _ _ _; first | refine T1.sa ?_ | (refine T1.na ?_; intro _)) | (show TC _ _ _ _ _ _ _ _ _ _; first | refine TC.goa ?_ | refine TC.fina ?_) | refine Tri.ca ?_))
        exact Post.cut _ _ ⟨S, D', 3, hSl, hD', rfl, rfl⟩ (by (exact Sub.au)) (by (exact Ents.au))
    · (repeat' (first | (show TL _ _ _ _ (_ :: _) _ _ _; first | refine TL.sa ?_ | (refine TL.na ?_; intro _)) | (first | refine Stp.h ?_ | refine Post.then_normal ?_ | refine Post.next ?_ | refine Post.block_other rfl ?_) | (show TT _ _ _ _ _ _ _ _ _; refine TT.sa ?_) | exact TTs.nil | refine TTs.cons ?_ ?_ | (show T1 _ _ _ _ _ _ _ _ _ _; first | refine T1.sa ?_ | (refine T1.na ?_; intro _)) | (show TC _ _ _ _ _ _ _ _ _ _; first | refine TC.goa ?_ | refine TC.fina ?_) | refine Tri.ca ?_))
      rw [show (k : Int) % 3 = ((k % 3 : Nat) : Int) by omega]
      have hk3 : k % 3 < S.length := by omega
      generalize k % 3 = m at hk3
      (repeat' (first | (show TL _ _ _ _ (_ :: _) _ _ _; first | refine TL.sa ?_ | (refine TL.na ?_; intro _)) | (first | refine Stp.h ?_ | refine Post.then_normal ?_ | refine Post.next ?_ | refine Post.block_other rfl ?_) | (show TT _ _ _ _ _ _ _ _ _; refine TT.sa ?_) | exact TTs.nil | refine TTs.cons ?_ ?_ | (show T1 _ _ _ _ _ _ _ _ _ _; first | refine T1.sa ?_ | (refine T1.na ?_; intro _)) | (show TC _ _ _ _ _ _ _ _ _ _; first | refine TC.goa ?_ | refine TC.fina ?_) | refine Tri.ca ?_))
      exact Post.cut _ _ ⟨S.set m to_, D, 3, by rw [List.length_set]; exact hSl, rfl, rfl, rfl⟩ (by (exact Sub.au)) (by (exact Ents.au))
    · (repeat' (first | (show TL _ _ _ _ (_ :: _) _ _ _; first | refine TL.sa ?_ | (refine TL.na ?_; intro _)) | (first | refine Stp.h ?_ | refine Post.then_normal ?_ | refine Post.next ?_ | refine Post.block_other rfl ?_) | (show TT _ _ _ _ _ _ _ _ _; refine TT.sa ?_) | exact TTs.nil | refine TTs.cons ?_ ?_ | (show T1 _ _ _ _ _ _ _ _ _ _; first | refine T1.sa ?_ | (refine T1.na ?_; intro _)) | (show TC _ _ _ _ _ _ _ _ _ _; first | refine TC.goa ?_ | refine TC.fina ?_) | refine Tri.ca ?_))
      exact Post.cut _ _ ⟨S, D, 2, hSl, rfl, rfl, rfl⟩ (by (exact Sub.au)) (by (exact Ents.au))
    · (repeat' (first | (show TL _ _ _ _ (_ :: _) _ _ _; first | refine TL.sa ?_ | (refine TL.na ?_; intro _)) | (first | refine Stp.h ?_ | refine Post.then_normal ?_ | refine Post.next ?_ | refine Post.block_other rfl ?_) | (show TT _ _ _ _ _ _ _ _ _; refine TT.sa ?_) | exact TTs.nil | refine TTs.cons ?_ ?_ | (show T1 _ _ _ _ _ _ _ _ _ _; first | refine T1.sa ?_ | (refine T1.na ?_; intro _)) | (show TC _ _ _ _ _ _ _ _ _ _; first | refine TC.goa ?_ | refine TC.fina ?_) | refine Tri.ca ?_))
      refine Tri.loop (ι := Nat × List Int) (fun s => s.1 ≤ D.length ∧ s.2.length = D.length) (fun s => D.length - s.1) (fun s => [(6, .pointer (some ⟨b6, 0, none⟩)), (11, .pointer (some ⟨b11, 0, none⟩)), (12, .pointer (some ⟨b12, 0, none⟩)), (94, .int .i64 (D.length : Int)), (95, .int .i64 (s.1 : Int))])
        (fun s => .cl b12 [.slice p1 3 c1, .int .i64 3, .slice p2 D.length c2] 46 :: .ow (cI .i64) 3 (.slice p1 3 c1) S :: .ow (cI .i64) 3 (.slice p2 D.length c2) s.2 :: .cl b11 [.slice sp 3 sc, .int .i64 3, .slice dp D.length dc] 46 :: .ow (cI .i64) 3 (.slice dp D.length dc) D :: .ow (cI .i64) 3 (.slice sp 3 sc) S :: .cl b6 [g.sv, .int .u8 (g.ou : Int), g.vv, .bool g.sm] 44 :: As) (0, D) ⟨Nat.zero_le _, rfl⟩ (by (exact Sub.au)) (by (exact Ents.au)) ?_
      rintro ⟨o, D'⟩ ⟨ho, hD'⟩
      simp only at ho hD'
      show Tri _ _ _ _ [(6, _), (11, _), (12, _), (94, _), (95, .int .i64 (o : Int))] (_ :: _ :: .ow _ _ _ D' :: _) _
      (repeat' (first | (show TL _ _ _ _ (_ :: _) _ _ _; first | refine TL.sa ?_ | (refine TL.na ?_; intro _)) | (first | refine Stp.h ?_ | refine Post.then_normal ?_ | refine Post.next ?_ | refine Post.block_other rfl ?_) | (show TT _ _ _ _ _ _ _ _ _; refine TT.sa ?_) | exact TTs.nil | refine TTs.cons ?_ ?_ | (show T1 _ _ _ _ _ _ _ _ _ _; first | refine T1.sa ?_ | (refine T1.na ?_; intro _)) | (show TC _ _ _ _ _ _ _ _ _ _; first | refine TC.goa ?_ | refine TC.fina ?_) | refine Tri.ca ?_))
      ((show Tri _ _ _ (.cond _ _ _) _ _ _; first | refine Tri.condP rfl (fun hc => ?_) (fun hc => ?_) | refine Tri.condN rfl (fun hc => ?_) (fun hc => ?_)))
      · obtain ⟨x, hx⟩ : ∃ x, D'[o]? = some x := ⟨_, List.getElem?_eq_getElem (by omega)⟩
        (repeat' (first | (show TL _ _ _ _ (_ :: _) _ _ _; first | refine TL.sa ?_ | (refine TL.na ?_; intro _)) | (first | refine Stp.h ?_ | refine Post.then_normal ?_ | refine Post.next ?_ | refine Post.block_other rfl ?_) | refine Tri.ca ?_))
        refine Tri.dr (.take 0 (.take 1 (.take 2 (.take 3 (.take 4 (.take 5 (.take 6 (.take 7 (.take 8 (.take 9 (.all [(10, .done)]))))))))))) ?_
        (repeat' (first | (show TL _ _ _ _ (_ :: _) _ _ _; first | refine TL.sa ?_ | (refine TL.na ?_; intro _)) | (first | refine Stp.h ?_ | refine Post.then_normal ?_ | refine Post.next ?_ | refine Post.block_other rfl ?_) | (show TT _ _ _ _ _ _ _ _ _; refine TT.sa ?_) | exact TTs.nil | refine TTs.cons ?_ ?_ | (show T1 _ _ _ _ _ _ _ _ _ _; first | refine T1.sa ?_ | (refine T1.na ?_; intro _)) | (show TC _ _ _ _ _ _ _ _ _ _; first | refine TC.goa ?_ | refine TC.fina ?_) | refine Tri.ca ?_))
        exact Post.round (o + 1, D'.set o (IntKind.wrap .i64 (65535 - x))) ⟨by simp only; omega, by simp only [List.length_set]; exact hD'⟩ (by simp only; omega) (by (exact Sub.au)) (by (exact Ents.au))
      · (repeat' (first | (show TL _ _ _ _ (_ :: _) _ _ _; first | refine TL.sa ?_ | (refine TL.na ?_; intro _)) | (first | refine Stp.h ?_ | refine Post.then_normal ?_ | refine Post.next ?_ | refine Post.block_other rfl ?_) | (show TT _ _ _ _ _ _ _ _ _; refine TT.sa ?_) | exact TTs.nil | refine TTs.cons ?_ ?_ | (show T1 _ _ _ _ _ _ _ _ _ _; first | refine T1.sa ?_ | (refine T1.na ?_; intro _)) | (show TC _ _ _ _ _ _ _ _ _ _; first | refine TC.goa ?_ | refine TC.fina ?_) | refine Tri.ca ?_))
        exact Post.cut _ _ ⟨S, D', 3, hSl, hD', rfl, rfl⟩ (by (exact Sub.au)) (by (exact Ents.au))
  rintro _ _ ⟨S', D', o', hS', hD', rfl, rfl⟩
  (repeat' (first | (show TL _ _ _ _ (_ :: _) _ _ _; first | refine TL.sa ?_ | (refine TL.na ?_; intro _)) | (first | refine Stp.h ?_ | refine Post.then_normal ?_ | refine Post.next ?_ | refine Post.block_other rfl ?_) | (show TT _ _ _ _ _ _ _ _ _; refine TT.sa ?_) | exact TTs.nil | refine TTs.cons ?_ ?_ | (show T1 _ _ _ _ _ _ _ _ _ _; first | refine T1.sa ?_ | (refine T1.na ?_; intro _)) | (show TC _ _ _ _ _ _ _ _ _ _; first | refine TC.goa ?_ | refine TC.fina ?_) | refine Tri.ca ?_))
  refine Tri.dr (.take 0 (.take 1 (.take 2 (.take 4 (.take 7 (.all [(3, .all [(5, .take 6 (.done))])])))))) ?_
  (repeat' (first | (show TL _ _ _ _ (_ :: _) _ _ _; first | refine TL.sa ?_ | (refine TL.na ?_; intro _)) | (first | refine Stp.h ?_ | refine Post.then_normal ?_ | refine Post.next ?_ | refine Post.block_other rfl ?_) | (show TT _ _ _ _ _ _ _ _ _; refine TT.sa ?_) | exact TTs.nil | refine TTs.cons ?_ ?_ | (show T1 _ _ _ _ _ _ _ _ _ _; first | refine T1.sa ?_ | (refine T1.na ?_; intro _)) | (show TC _ _ _ _ _ _ _ _ _ _; first | refine TC.goa ?_ | refine TC.fina ?_) | refine Tri.ca ?_))
  refine T1.callv rfl rfl rfl rfl rfl (grid10_ok g hg) ?_
  rintro _ _ ⟨q1, a1, q2, a2, S3, D3, o3, l3, k3, rfl, rfl⟩
  (repeat' (first | (show TL _ _ _ _ (_ :: _) _ _ _; first | refine TL.sa ?_ | (refine TL.na ?_; intro _)) | (first | refine Stp.h ?_ | refine Post.then_normal ?_ | refine Post.next ?_ | refine Post.block_other rfl ?_) | (show TT _ _ _ _ _ _ _ _ _; refine TT.sa ?_) | exact TTs.nil | refine TTs.cons ?_ ?_ | (show T1 _ _ _ _ _ _ _ _ _ _; first | refine T1.sa ?_ | (refine T1.na ?_; intro _)) | (show TC _ _ _ _ _ _ _ _ _ _; first | refine TC.goa ?_ | refine TC.fina ?_) | refine Tri.ca ?_))
  refine T1.callv rfl rfl rfl rfl rfl (three10_ok g hg) ?_
  rintro _ _ ⟨q3, a3, q4, a4, S4, D4, o4, l4, k4, rfl, rfl⟩
  (repeat' (first | (show TL _ _ _ _ (_ :: _) _ _ _; first | refine TL.sa ?_ | (refine TL.na ?_; intro _)) | (first | refine Stp.h ?_ | refine Post.then_normal ?_ | refine Post.next ?_ | refine Post.block_other rfl ?_) | (show TT _ _ _ _ _ _ _ _ _; refine TT.sa ?_) | exact TTs.nil | refine TTs.cons ?_ ?_ | (show T1 _ _ _ _ _ _ _ _ _ _; first | refine T1.sa ?_ | (refine T1.na ?_; intro _)) | (show TC _ _ _ _ _ _ _ _ _ _; first | refine TC.goa ?_ | refine TC.fina ?_) | refine Tri.ca ?_))
  obtain ⟨E, hE⟩ : ∃ E, E = .ow (cI .i64) 3 (.slice q4 D4.length a4) D4 :: .ow (cI .i64) 3 (.slice q3 S4.length a3) S4 :: .ow (cI .i64) 3 (.slice q2 D3.length a2) D3 :: .ow (cI .i64) 3 (.slice q1 S3.length a1) S3 :: .ow (cI .i64) 3 (.slice p1 3 c1) S' :: .ow (cI .i64) 3 (.slice p2 D.length c2) D' :: .ow (cI .i64) 3 (.slice dp D.length dc) D :: .ow (cI .i64) 3 (.slice sp 3 sc) S :: As := ⟨_, rfl⟩
  refine Tri.loop (ι := Nat) (fun n => n ≤ 4) (fun n => 4 - n) (fun n => [(115, .agg #[.slice sp 3 sc, .int .i64 3, .slice dp D.length dc, .slice p1 3 c1, .int .i64 o', .slice p2 D.length c2, .slice q1 S3.length a1, .int .i64 o3, .slice q2 D3.length a2, .slice q3 S4.length a3, .int .i64 o4, .slice q4 D4.length a4]), (116, .int .i64 (n : Int))]) (fun _ => E) 0 (by omega) (by (exact Sub.au)) (by rw [hE]; (exact Ents.au)) ?_
  intro n hn
  (repeat' (first | (show TL _ _ _ _ (_ :: _) _ _ _; first | refine TL.sa ?_ | (refine TL.na ?_; intro _)) | (first | refine Stp.h ?_ | refine Post.then_normal ?_ | refine Post.next ?_ | refine Post.block_other rfl ?_) | (show TT _ _ _ _ _ _ _ _ _; refine TT.sa ?_) | exact TTs.nil | refine TTs.cons ?_ ?_ | (show T1 _ _ _ _ _ _ _ _ _ _; first | refine T1.sa ?_ | (refine T1.na ?_; intro _)) | (show TC _ _ _ _ _ _ _ _ _ _; first | refine TC.goa ?_ | refine TC.fina ?_) | refine Tri.ca ?_))
  ((show Tri _ _ _ (.cond _ _ _) _ _ _; first | refine Tri.condP rfl (fun hc => ?_) (fun hc => ?_) | refine Tri.condN rfl (fun hc => ?_) (fun hc => ?_)))
  · obtain ⟨x, o, y, X, Y, hxy, ix, iy, hx, hy, lx, ly⟩ : ∃ x o y X Y, ([.slice sp 3 sc, .int .i64 3, .slice dp D.length dc, .slice p1 3 c1, .int .i64 o', .slice p2 D.length c2, .slice q1 S3.length a1, .int .i64 o3, .slice q2 D3.length a2, .slice q3 S4.length a3, .int .i64 o4, .slice q4 D4.length a4].drop (n * 3)).take 3 = [x, .int .i64 o, y] ∧ RdIn E x Int (cI .i64) X ∧ RdIn E y Int (cI .i64) Y ∧ x.oneCell' = true ∧ y.oneCell' = true ∧ X.length ≤ 1000000000 ∧ Y.length ≤ 1000000000 := by
      rcases (by omega : n = 0 ∨ n = 1 ∨ n = 2 ∨ n = 3) with rfl | rfl | rfl | rfl
      · exact ⟨_, _, _, S, D, rfl, by rw [hE]; infer_instance, by rw [hE]; infer_instance, rfl, rfl, by omega, by omega⟩
      · exact ⟨_, _, _, S', D', rfl, by rw [hE]; infer_instance, by rw [hE]; infer_instance, rfl, rfl, by omega, by omega⟩
      · exact ⟨_, _, _, S3, D3, rfl, by rw [hE]; infer_instance, by rw [hE]; infer_instance, rfl, rfl, by omega, by omega⟩
      · exact ⟨_, _, _, S4, D4, rfl, by rw [hE]; infer_instance, by rw [hE]; infer_instance, rfl, rfl, by omega, by omega⟩
    have hn4 : Nat.blt n 4 = true := by rw [Nat.blt_eq]; omega
    (repeat' (first | (show TL _ _ _ _ (_ :: _) _ _ _; first | refine TL.sa ?_ | (refine TL.na ?_; intro _)) | (first | refine Stp.h ?_ | refine Post.then_normal ?_ | refine Post.next ?_ | refine Post.block_other rfl ?_) | (show TT _ _ _ _ _ _ _ _ _; refine TT.sa ?_) | exact TTs.nil | refine TTs.cons ?_ ?_ | (show T1 _ _ _ _ _ _ _ _ _ _; first | refine T1.sa ?_ | (refine T1.na ?_; intro _)) | (show TC _ _ _ _ _ _ _ _ _ _; first | refine TC.goa ?_ | refine TC.fina ?_) | refine Tri.ca ?_))
    refine TL.f rfl rfl (ExF.idxArrA rfl rfl rfl hn4 hxy) ?_
    (repeat' (first | (show TL _ _ _ _ (_ :: _) _ _ _; first | refine TL.sa ?_ | (refine TL.na ?_; intro _)) | (first | refine Stp.h ?_ | refine Post.then_normal ?_ | refine Post.next ?_ | refine Post.block_other rfl ?_) | (show TT _ _ _ _ _ _ _ _ _; refine TT.sa ?_) | exact TTs.nil | refine TTs.cons ?_ ?_ | (show T1 _ _ _ _ _ _ _ _ _ _; first | refine T1.sa ?_ | (refine T1.na ?_; intro _)) | (show TC _ _ _ _ _ _ _ _ _ _; first | refine TC.goa ?_ | refine TC.fina ?_) | refine Tri.ca ?_))
    refine TL.call rfl rfl rfl (shell_ok ht (S := X) (D := Y) lx ly) ?_
    intro _ _ h
    obtain ⟨L1, L2⟩ := shellR_len (S := X) (D := Y) (out := o)
    rcases hR : shellR X o Y with ⟨e, P, F⟩
    rw [hR] at L1 L2
    simp only at L1 L2
    obtain ⟨pv, fv, rfl, h1, h2, rfl⟩ := meshR_eq hR h
    clear h
    (repeat' (first | (show TL _ _ _ _ (_ :: _) _ _ _; first | refine TL.sa ?_ | (refine TL.na ?_; intro _)) | (first | refine Stp.h ?_ | refine Post.then_normal ?_ | refine Post.next ?_ | refine Post.block_other rfl ?_) | refine Tri.ca ?_))
    refine TL.callv rfl rfl rfl rfl (shellRef_ok ht (S := X) (D := Y) (out := o) lx ly) ?_
    intro _ _ h
    obtain ⟨pv', fv', rfl, h1', h2', rfl⟩ := meshR_eq hR h
    clear h
    (repeat' (first | (show TL _ _ _ _ (_ :: _) _ _ _; first | refine TL.sa ?_ | (refine TL.na ?_; intro _)) | (first | refine Stp.h ?_ | refine Post.then_normal ?_ | refine Post.next ?_ | refine Post.block_other rfl ?_) | refine Tri.ca ?_))
    refine TL.call rfl rfl rfl (sameR_ok (pts := P) (fcs := F) (pts' := P) (fcs' := F) (by omega) (by omega)) ?_
    rintro _ _ ⟨rfl, rfl⟩
    rw [show (decide (P = P) && decide (F = F)) = true by simp]
    (repeat' (first | (show TL _ _ _ _ (_ :: _) _ _ _; first | refine TL.sa ?_ | (refine TL.na ?_; intro _)) | (first | refine Stp.h ?_ | refine Post.then_normal ?_ | refine Post.next ?_ | refine Post.block_other rfl ?_) | refine Tri.ca ?_))
    exact Post.round (n + 1) (by omega) (by omega) (by (exact Sub.au)) (by rw [hE]; (exact Ents.au))
  · (repeat' (first | (show TL _ _ _ _ (_ :: _) _ _ _; first | refine TL.sa ?_ | (refine TL.na ?_; intro _)) | (first | refine Stp.h ?_ | refine Post.then_normal ?_ | refine Post.next ?_ | refine Post.block_other rfl ?_) | refine Tri.ca ?_))
    refine TL.call rfl rfl rfl (works_ok ht) ?_
    rintro _ _ ⟨rfl, rfl⟩
    (repeat' (first | (show TL _ _ _ _ (_ :: _) _ _ _; first | refine TL.sa ?_ | (refine TL.na ?_; intro _)) | (first | refine Stp.h ?_ | refine Post.then_normal ?_ | refine Post.next ?_ | refine Post.block_other rfl ?_) | refine Tri.ca ?_))
    (refine Post.ra ?_)
    exact ⟨[], rfl, Ents.of_cov inferInstance⟩
end Go.Proofs.YtjpghlljcibcjaaGreatDoor
