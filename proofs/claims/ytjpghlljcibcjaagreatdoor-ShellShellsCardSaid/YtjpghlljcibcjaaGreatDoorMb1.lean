/- Walks: a mesh turned inside out, a mesh moved. -/
import Derived.Test.YtjpghlljcibcjaaGreatDoorMa9
namespace Go.Proofs.YtjpghlljcibcjaaGreatDoor
open Go Go.Sx
variable {w0 : World} {As : List Ent} {pv fv : Value} {pts fcs : List V3}
/-- what a changed mesh is: its lists are its own -/
def MeshR (As : List Ent) (r : Int × List V3 × List V3) (v : Value) (Bs : List Ent) : Prop := ∃ pv fv, v = .tuple #[.agg #[pv, fv], .int .i64 r.1] ∧ pv.oneCell' = true ∧ fv.oneCell' = true ∧ Bs = .ow cV3 27 pv r.2.1 :: .ow cV3 27 fv r.2.2 :: As
theorem meshR_none {r : Int} : ∃ As', MeshR As (r, [], []) (.tuple #[.agg #[.slice none 0 0, .slice none 0 0], .int .i64 r]) As' ∧ Ents As As' :=
  ⟨_, ⟨_, _, rfl, rfl, rfl, rfl⟩, Ents.trans (Ents.nilW cV3) (Ents.nilW cV3)⟩
theorem meshR_eq {r : Int × List V3 × List V3} {e : Int} {P F : List V3} (hr : r = (e, P, F)) {v : Value} {Bs : List Ent} (h : MeshR As r v Bs) : ∃ pv fv, v = .tuple #[.agg #[pv, fv], .int .i64 e] ∧ pv.oneCell' = true ∧ fv.oneCell' = true ∧ Bs = .ow cV3 27 pv P :: .ow cV3 27 fv F :: As := by
  subst hr; exact h
theorem turned_ok [RdIn As fv V3 cV3 fcs] [RdIn As pv V3 cV3 pts] :
    CallsS Tryz.prog w0 35 [.agg #[pv, fv]] As (MeshR As (turnedM pts fcs)) := by
  refine CallsS.of_tri Tryz.func35 rfl Tryz.ntmps35 rfl ?_
  (repeat' (first | (show TL _ _ _ _ (_ :: _) _ _ _; first | refine TL.sa ?_ | (refine TL.na ?_; intro _)) | (first | refine Stp.h ?_ | refine Post.then_normal ?_ | refine Post.next ?_ | refine Post.block_other rfl ?_) | refine Tri.ca ?_))
  refine TL.call rfl rfl rfl check_ok ?_
  rintro _ _ ⟨rfl, rfl⟩
  (repeat' (first | (show TL _ _ _ _ (_ :: _) _ _ _; first | refine TL.sa ?_ | (refine TL.na ?_; intro _)) | (first | refine Stp.h ?_ | refine Post.then_normal ?_ | refine Post.next ?_ | refine Post.block_other rfl ?_) | refine Tri.ca ?_))
  ((show Tri _ _ _ (.cond _ _ _) _ _ _; first | refine Tri.condP rfl (fun hc => ?_) (fun hc => ?_) | refine Tri.condN rfl (fun hc => ?_) (fun hc => ?_)))
  · obtain ⟨h1, h2⟩ := chk_no hc
    rw [h2]
    (repeat' (first | (show TL _ _ _ _ (_ :: _) _ _ _; first | refine TL.sa ?_ | (refine TL.na ?_; intro _)) | (first | refine Stp.h ?_ | refine Post.then_normal ?_ | refine Post.next ?_ | refine Post.block_other rfl ?_) | refine Tri.ca ?_))
    (refine Post.ra ?_)
    rw [turnedM, if_neg h1]
    obtain ⟨As', h3, h4⟩ := meshR_none (As := As) (r := 350)
    exact ⟨As', h3, Ents.trans (by (exact Ents.au)) h4⟩
  · have hk := chk_ok hc
    have hg := okM_good.1 hk
    have hlp := hg.p300
    have hlf := hg.f600
    (repeat' (first | (show TL _ _ _ _ (_ :: _) _ _ _; first | refine TL.sa ?_ | (refine TL.na ?_; intro _)) | (first | refine Stp.h ?_ | refine Post.then_normal ?_ | refine Post.next ?_ | refine Post.block_other rfl ?_) | refine Tri.ca ?_))
    rename_i b1 b2
    refine Tri.mid (fun e' As' => ∃ p1 c1 p2 c2 b5, e' = [(1, .pointer (some ⟨b1, 0, none⟩)), (2, .pointer (some ⟨b2, 0, none⟩)), (5, .pointer (some ⟨b5, 0, none⟩))] ∧
      As' = .ow cV3 27 (.slice p1 pts.length c1) pts :: .ow cV3 27 (.slice p2 fcs.length c2) fcs :: .cl b5 [.slice p1 pts.length c1, .slice p2 fcs.length c2] 36 :: .cl b1 [pv, fv] 36 :: .cl b2 [.slice none 0 0, .slice none 0 0] 36 :: As) ?_ ?_
    · refine Tri.dw (.cl b1 [pv, fv] 36 :: As) [] (.take 0 (.take 1 (.take 3 (.take 4 (.all [(2, .all [(5, .take 6 (.all [(7, .all [(8, .done)])])), (7, .all [(5, .take 6 (.all [(8, .done)]))])]), (7, .all [(2, .all [(5, .take 6 (.all [(8, .done)]))])])]))))) ?_
      (repeat' (first | (show TL _ _ _ _ (_ :: _) _ _ _; first | refine TL.sa ?_ | (refine TL.na ?_; intro _)) | (first | refine Stp.h ?_ | refine Post.then_normal ?_ | refine Post.next ?_ | refine Post.block_other rfl ?_) | (show TT _ _ _ _ _ _ _ _ _; refine TT.sa ?_) | exact TTs.nil | refine TTs.cons ?_ ?_ | (show T1 _ _ _ _ _ _ _ _ _ _; first | refine T1.sa ?_ | (refine T1.na ?_; intro _)) | (show TC _ _ _ _ _ _ _ _ _ _; first | refine TC.goa ?_ | refine TC.fina ?_) | refine Tri.ca ?_))
      all_goals
        refine T1.call rfl rfl rfl rfl (clone_ok (by omega)) ?_
        rintro _ _ ⟨p1, c1, rfl, rfl⟩
        (repeat' (first | (show TL _ _ _ _ (_ :: _) _ _ _; first | refine TL.sa ?_ | (refine TL.na ?_; intro _)) | (first | refine Stp.h ?_ | refine Post.then_normal ?_ | refine Post.next ?_ | refine Post.block_other rfl ?_) | (show TT _ _ _ _ _ _ _ _ _; refine TT.sa ?_) | exact TTs.nil | refine TTs.cons ?_ ?_ | (show T1 _ _ _ _ _ _ _ _ _ _; first | refine T1.sa ?_ | (refine T1.na ?_; intro _)) | (show TC _ _ _ _ _ _ _ _ _ _; first | refine TC.goa ?_ | refine TC.fina ?_) | refine Tri.ca ?_))
      all_goals
        refine T1.call rfl rfl rfl rfl (clone_ok (by omega)) ?_
        rintro _ _ ⟨p2, c2, rfl, rfl⟩
        (repeat' (first | (show TL _ _ _ _ (_ :: _) _ _ _; first | refine TL.sa ?_ | (refine TL.na ?_; intro _)) | (first | refine Stp.h ?_ | refine Post.then_normal ?_ | refine Post.next ?_ | refine Post.block_other rfl ?_) | (show TT _ _ _ _ _ _ _ _ _; refine TT.sa ?_) | exact TTs.nil | refine TTs.cons ?_ ?_ | (show T1 _ _ _ _ _ _ _ _ _ _; first | refine T1.sa ?_ | (refine T1.na ?_; intro _)) | (show TC _ _ _ _ _ _ _ _ _ _; first | refine TC.goa ?_ | refine TC.fina ?_) | refine Tri.ca ?_))
      all_goals
        rename_i b5
        exact Post.cut _ _ ⟨p1, c1, p2, c2, b5, rfl, rfl⟩ (by (exact Sub.au)) (by (exact Ents.au))
    · rintro _ _ ⟨p1, c1, p2, c2, b5, rfl, rfl⟩
      (repeat' (first | (show TL _ _ _ _ (_ :: _) _ _ _; first | refine TL.sa ?_ | (refine TL.na ?_; intro _)) | (first | refine Stp.h ?_ | refine Post.then_normal ?_ | refine Post.next ?_ | refine Post.block_other rfl ?_) | (show TT _ _ _ _ _ _ _ _ _; refine TT.sa ?_) | exact TTs.nil | refine TTs.cons ?_ ?_ | (show T1 _ _ _ _ _ _ _ _ _ _; first | refine T1.sa ?_ | (refine T1.na ?_; intro _)) | (show TC _ _ _ _ _ _ _ _ _ _; first | refine TC.goa ?_ | refine TC.fina ?_) | refine Tri.ca ?_))
      refine Tri.loop (ι := Nat) (fun k => k ≤ fcs.length) (fun k => fcs.length - k)
        (fun k => [(1, .pointer (some ⟨b1, 0, none⟩)), (2, .pointer (some ⟨b2, 0, none⟩)), (5, .pointer (some ⟨b5, 0, none⟩)), (22, fv), (23, .int .i64 fcs.length), (24, .int .i64 k)])
        (fun k => .ow cV3 27 (.slice p1 pts.length c1) pts :: .ow cV3 27 (.slice p2 fcs.length c2) ((fcs.take k).map swapF ++ fcs.drop k) :: .cl b5 [.slice p1 pts.length c1, .slice p2 fcs.length c2] 36 :: .cl b2 [.slice none 0 0, .slice none 0 0] 36 :: As) 0 (by omega) (by (exact Sub.au)) (by simp only [List.take_zero, List.map_nil, List.nil_append, List.drop_zero]; (exact Ents.au)) ?_
      intro k hkl
      have hlen : ((fcs.take k).map swapF ++ fcs.drop k).length = fcs.length := mapTake_length
      generalize hxs : (fcs.take k).map swapF ++ fcs.drop k = xs at hlen ⊢
      (repeat' (first | (show TL _ _ _ _ (_ :: _) _ _ _; first | refine TL.sa ?_ | (refine TL.na ?_; intro _)) | (first | refine Stp.h ?_ | refine Post.then_normal ?_ | refine Post.next ?_ | refine Post.block_other rfl ?_) | (show TT _ _ _ _ _ _ _ _ _; refine TT.sa ?_) | exact TTs.nil | refine TTs.cons ?_ ?_ | (show T1 _ _ _ _ _ _ _ _ _ _; first | refine T1.sa ?_ | (refine T1.na ?_; intro _)) | (show TC _ _ _ _ _ _ _ _ _ _; first | refine TC.goa ?_ | refine TC.fina ?_) | refine Tri.ca ?_))
      ((show Tri _ _ _ (.cond _ _ _) _ _ _; first | refine Tri.condP rfl (fun hc => ?_) (fun hc => ?_) | refine Tri.condN rfl (fun hc => ?_) (fun hc => ?_)))
      · obtain ⟨f, hp⟩ : ∃ p, fcs[k]? = some p := ⟨_, List.getElem?_eq_getElem (by omega)⟩
        have hq : xs[k]? = some f := by rw [← hxs]; exact mapTake_get hp
        (repeat' (first | (show TL _ _ _ _ (_ :: _) _ _ _; first | refine TL.sa ?_ | (refine TL.na ?_; intro _)) | (first | refine Stp.h ?_ | refine Post.then_normal ?_ | refine Post.next ?_ | refine Post.block_other rfl ?_) | (show TT _ _ _ _ _ _ _ _ _; refine TT.sa ?_) | exact TTs.nil | refine TTs.cons ?_ ?_ | (show T1 _ _ _ _ _ _ _ _ _ _; first | refine T1.sa ?_ | (refine T1.na ?_; intro _)) | (show TC _ _ _ _ _ _ _ _ _ _; first | refine TC.goa ?_ | refine TC.fina ?_) | refine Tri.ca ?_))
        refine Post.round (k + 1) (by omega) (by omega) (by (exact Sub.au)) ?_
        have e9 := mapTake_set (f := swapF) (y := ⟨f.x, f.z, f.y⟩) hp rfl
        rw [hxs] at e9
        rw [← e9]
        (exact Ents.au)
      · (repeat' (first | (show TL _ _ _ _ (_ :: _) _ _ _; first | refine TL.sa ?_ | (refine TL.na ?_; intro _)) | (first | refine Stp.h ?_ | refine Post.then_normal ?_ | refine Post.next ?_ | refine Post.block_other rfl ?_) | refine Tri.ca ?_))
        (refine Post.ra ?_)
        have hk' : k = fcs.length := by omega
        subst hk'
        rw [List.take_length, List.drop_length, List.append_nil] at hxs
        subst hxs
        rw [turnedM, if_pos hk]
        exact ⟨_, ⟨_, _, rfl, rfl, rfl, rfl⟩, by (exact Ents.au)⟩
end Go.Proofs.YtjpghlljcibcjaaGreatDoor
