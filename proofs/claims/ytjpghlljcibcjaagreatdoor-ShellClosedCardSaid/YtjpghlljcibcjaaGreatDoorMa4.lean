/- Walks: edges that are there twice; edges without an opposite one. -/
import Derived.Test.YtjpghlljcibcjaaGreatDoorMa3
namespace Go.Proofs.YtjpghlljcibcjaaGreatDoor
open Go Go.Sx
variable {w0 : World} {As : List Ent} {pv fv mv : Value} {pts fcs : List V3}
theorem twice_ok {mb : Nat} [RdIn As fv V3 cV3 fcs] (hl : fcs.length ≤ 1000000000) :
    CallsS Tryz.prog w0 80 [.agg #[pv, fv, .map (some mb)]] (.ob mb (mapO cE cNv []) :: As) fun v Bs => v = found (twiceF fcs) ∧ Bs = .ob mb (mapO cE cNv (ownF fcs)) :: As := by
  refine CallsS.of_tri Tryz.func80 rfl Tryz.ntmps80 rfl ?_
  (repeat' (first | ((show TL _ _ _ _ (_ :: _) _ _ _; first | refine TL.fa ?_ | refine TL.ua ?_ | (refine TL.rba ?_; intro _) | (refine TL.rra ?_; first | rintro _ _ ⟨rfl, rfl⟩ | rintro _ _ rfl) | refine TL.offa ?_ | refine TL.off0a ?_ | refine TL.gu ?_ | fail)) | (first | refine Stp.h ?_ | refine Post.then_normal ?_ | refine Post.next ?_ | refine Post.block_other rfl ?_) | ((show Tri _ _ _ (.cond _ _ _) _ _ _; first | refine Tri.cTa ?_ | refine Tri.cFa ?_ | refine Tri.condTa ?_ | refine Tri.condFa ?_ | refine Tri.condNTa ?_ | refine Tri.condNFa ?_ | fail))))
  refine TL.call rfl rfl rfl edges_ok ?_
  rintro v Bs ⟨b, rfl, rfl⟩
  (repeat' (first | ((show TL _ _ _ _ (_ :: _) _ _ _; first | refine TL.fa ?_ | refine TL.ua ?_ | (refine TL.rba ?_; intro _) | (refine TL.rra ?_; first | rintro _ _ ⟨rfl, rfl⟩ | rintro _ _ rfl) | refine TL.offa ?_ | refine TL.off0a ?_ | refine TL.gu ?_ | fail)) | (first | refine Stp.h ?_ | refine Post.then_normal ?_ | refine Post.next ?_ | refine Post.block_other rfl ?_) | ((show Tri _ _ _ (.cond _ _ _) _ _ _; first | refine Tri.cTa ?_ | refine Tri.cFa ?_ | refine Tri.condTa ?_ | refine Tri.condFa ?_ | refine Tri.condNTa ?_ | refine Tri.condNFa ?_ | fail))))
  rename_i b1 r2 r3
  refine Tri.rangeFn rfl (fun pd As' => (pd = none ∧ twiceP fcs = none ∧ As' = .cl b1 [pv, fv, .map (some mb)] 123 :: .cl r2 [.int .i64 0] 3 :: .cl r3 [.bool false] 4 :: .ob mb (mapO cE cNv (own fcs (3 * fcs.length))) :: As) ∨
    (∃ p, pd = some .ret ∧ twiceP fcs = some p ∧ As' = .cl b1 [pv, fv, .map (some mb)] 123 :: .cl r2 [.int .i64 (p / 3 : Nat)] 3 :: .cl r3 [.bool true] 4 :: .ob mb (mapO cE cNv (own fcs p)) :: As)) ?_ ?_ ?_
  · intro L l rb hL1 hL2 hL3 hL4 hL5 hok
    refine CallsS.ents ?_ (CallsS.mono (edges1_ok (L := L) (l := l) (b := b) (pv := pv) (fv := fv) (mv := .map (some mb)) (As := As) (Y := fun p => [.ob rb (.deferred (some [])), .cl b1 [pv, fv, .map (some mb)] 123, .cl r2 [.int .i64 0] 3, .cl r3 [.bool false] 4, .ob mb (mapO cE cNv (own fcs p))])
      (I := fun p => ∀ j, j < p → dup fcs j = false)
      (R := fun p Z => dup fcs p = true ∧ (∀ j, j < p → dup fcs j = false) ∧ Z = [.ob l (.loop { L with state := .done, pending := some .ret }), .ob rb (.deferred (some [])), .cl b1 [pv, fv, .map (some mb)] 123, .cl r2 [.int .i64 (p / 3 : Nat)] 3, .cl r3 [.bool true] 4, .ob mb (mapO cE cNv (own fcs p))])
      hl (by rw [hL3]; rfl) (fun j h => by omega) ?_) ?_)
    · simp only [List.cons_append, List.nil_append, own]
      (exact Ents.au)
    · intro p hp hI F
      generalize hu : edgeAt fcs p = u
      obtain ⟨a, b⟩ := u
      refine YieldS.of (ps := [10, 11]) hL3 hL4 hL5 rfl (by decide) hok ?_
      show Tri _ _ _ _ ((10, _) :: (11, _) :: _) (.ob l (.loop L) :: .ob rb _ :: .cl b1 _ _ :: .cl r2 _ _ :: .cl r3 _ _ :: .ob mb _ :: F) _
      (repeat' (first | ((show TL _ _ _ _ (_ :: _) _ _ _; first | refine TL.fa ?_ | refine TL.ua ?_ | (refine TL.rba ?_; intro _) | (refine TL.rra ?_; first | rintro _ _ ⟨rfl, rfl⟩ | rintro _ _ rfl) | refine TL.offa ?_ | refine TL.off0a ?_ | refine TL.gu ?_ | fail)) | (first | refine Stp.h ?_ | refine Post.then_normal ?_ | refine Post.next ?_ | refine Post.block_other rfl ?_) | ((show Tri _ _ _ (.cond _ _ _) _ _ _; first | refine Tri.cTa ?_ | refine Tri.cFa ?_ | refine Tri.condTa ?_ | refine Tri.condFa ?_ | refine Tri.condNTa ?_ | refine Tri.condNFa ?_ | fail))))
      refine Post.beginRound hL1 ?_
      (repeat' (first | ((show TL _ _ _ _ (_ :: _) _ _ _; first | refine TL.fa ?_ | refine TL.ua ?_ | (refine TL.rba ?_; intro _) | (refine TL.rra ?_; first | rintro _ _ ⟨rfl, rfl⟩ | rintro _ _ rfl) | refine TL.offa ?_ | refine TL.off0a ?_ | refine TL.gu ?_ | fail)) | (first | refine Stp.h ?_ | refine Post.then_normal ?_ | refine Post.next ?_ | refine Post.block_other rfl ?_) | ((show Tri _ _ _ (.cond _ _ _) _ _ _; first | refine Tri.cTa ?_ | refine Tri.cFa ?_ | refine Tri.condTa ?_ | refine Tri.condFa ?_ | refine Tri.condNTa ?_ | refine Tri.condNFa ?_ | fail))))
      ((show Tri _ _ _ (.cond _ _ _) _ _ _; first | refine Tri.condP rfl (fun hc => ?_) (fun hc => ?_) | refine Tri.condN rfl (fun hc => ?_) (fun hc => ?_)))
      · have hd : dup fcs p = true := by simpa [dup, hu] using hc
        (repeat' (first | ((show TL _ _ _ _ (_ :: _) _ _ _; first | refine TL.fa ?_ | refine TL.ua ?_ | (refine TL.rba ?_; intro _) | (refine TL.rra ?_; first | rintro _ _ ⟨rfl, rfl⟩ | rintro _ _ rfl) | refine TL.offa ?_ | refine TL.off0a ?_ | refine TL.gu ?_ | fail)) | (first | refine Stp.h ?_ | refine Post.then_normal ?_ | refine Post.next ?_ | refine Post.block_other rfl ?_) | ((show Tri _ _ _ (.cond _ _ _) _ _ _; first | refine Tri.cTa ?_ | refine Tri.cFa ?_ | refine Tri.condTa ?_ | refine Tri.condFa ?_ | refine Tri.condNTa ?_ | refine Tri.condNFa ?_ | fail))))
        refine Post.endRet ⟨_, .inr ⟨rfl, _, ⟨hd, hI, rfl⟩, rfl⟩, ?_⟩
        simp only [List.cons_append, List.nil_append]
        (exact Ents.au)
      · have hd : dup fcs p = false := by simpa [dup, hu] using hc
        (repeat' (first | ((show TL _ _ _ _ (_ :: _) _ _ _; first | refine TL.fa ?_ | refine TL.ua ?_ | (refine TL.rba ?_; intro _) | (refine TL.rra ?_; first | rintro _ _ ⟨rfl, rfl⟩ | rintro _ _ rfl) | refine TL.offa ?_ | refine TL.off0a ?_ | refine TL.gu ?_ | fail)) | (first | refine Stp.h ?_ | refine Post.then_normal ?_ | refine Post.next ?_ | refine Post.block_other rfl ?_) | ((show Tri _ _ _ (.cond _ _ _) _ _ _; first | refine Tri.cTa ?_ | refine Tri.cFa ?_ | refine Tri.condTa ?_ | refine Tri.condFa ?_ | refine Tri.condNTa ?_ | refine Tri.condNFa ?_ | fail))))
        refine Post.endRound ⟨_, .inl ⟨rfl, fun j hj => ?_, rfl⟩, ?_⟩
        · rcases Nat.lt_or_ge j p with h1 | h1
          · exact hI j h1
          · rw [show j = p from by omega]; exact hd
        · simp only [List.cons_append, List.nil_append, own, hu]
          rw [show ({ L with state := .ready, pending := none } : Loop) = L from by cases L; simp only at hL1 hL2; subst hL1 hL2; rfl]
          (exact Ents.au)
    · rintro v Bs (⟨hI, rfl⟩ | ⟨p, Z, hp, ⟨hd, hI, rfl⟩, rfl⟩)
      · refine ⟨.ready, none, _, .inl ⟨rfl, findR_none hI, rfl⟩, by simp, ?_⟩
        simp only [List.cons_append, List.nil_append]
        rw [show ({ L with state := .ready, pending := none } : Loop) = L from by cases L; simp only at hL1 hL2; subst hL1 hL2; rfl]
        (exact Ents.au)
      · refine ⟨.done, some .ret, _, .inr ⟨p, rfl, findR_some hp hd hI, rfl⟩, by simp, ?_⟩
        simp only [List.cons_append, List.nil_append]
        (exact Ents.au)
  · rintro As' (⟨_, ht, rfl⟩ | ⟨p, h, _⟩)
    · intro rb
      (repeat' (first | ((show TL _ _ _ _ (_ :: _) _ _ _; first | refine TL.fa ?_ | refine TL.ua ?_ | (refine TL.rba ?_; intro _) | (refine TL.rra ?_; first | rintro _ _ ⟨rfl, rfl⟩ | rintro _ _ rfl) | refine TL.offa ?_ | refine TL.off0a ?_ | refine TL.gu ?_ | fail)) | (first | refine Stp.h ?_ | refine Post.then_normal ?_ | refine Post.next ?_ | refine Post.block_other rfl ?_) | ((show Tri _ _ _ (.cond _ _ _) _ _ _; first | refine Tri.cTa ?_ | refine Tri.cFa ?_ | refine Tri.condTa ?_ | refine Tri.condFa ?_ | refine Tri.condNTa ?_ | refine Tri.condNFa ?_ | fail))))
      refine Post.unmark ?_
      ((try refine Post.ret_normal ?_); first | refine Post.r1a ?_ | refine Post.r2a ?_ | refine Post.r3a ?_ | refine Post.r0a ?_ | fail)
      refine ⟨_, ⟨?_, rfl⟩, ?_⟩
      · simp [found, twiceF, ht]
      · simp only [ownF, ht, Option.getD_none]
        (exact Ents.au)
    · cases h
  · rintro c As' (⟨h, _, _⟩ | ⟨p, h, ht, rfl⟩)
    · cases h
    · cases h
      intro rb
      (repeat' (first | ((show TL _ _ _ _ (_ :: _) _ _ _; first | refine TL.fa ?_ | refine TL.ua ?_ | (refine TL.rba ?_; intro _) | (refine TL.rra ?_; first | rintro _ _ ⟨rfl, rfl⟩ | rintro _ _ rfl) | refine TL.offa ?_ | refine TL.off0a ?_ | refine TL.gu ?_ | fail)) | (first | refine Stp.h ?_ | refine Post.then_normal ?_ | refine Post.next ?_ | refine Post.block_other rfl ?_) | ((show Tri _ _ _ (.cond _ _ _) _ _ _; first | refine Tri.cTa ?_ | refine Tri.cFa ?_ | refine Tri.condTa ?_ | refine Tri.condFa ?_ | refine Tri.condNTa ?_ | refine Tri.condNFa ?_ | fail))))
      refine Post.unmark ?_
      ((try refine Post.ret_normal ?_); first | refine Post.r1a ?_ | refine Post.r2a ?_ | refine Post.r3a ?_ | refine Post.r0a ?_ | fail)
      refine ⟨_, ⟨?_, rfl⟩, ?_⟩
      · simp [found, twiceF, ht]
      · simp only [ownF, ht, Option.getD_some]
        (exact Ents.au)
theorem open_ok {mb : Nat} {ow : List (Edg × Nat)} [RdIn As fv V3 cV3 fcs] (hl : fcs.length ≤ 1000000000) :
    CallsS Tryz.prog w0 81 [.agg #[pv, fv, .map (some mb)]] (.ob mb (mapO cE cNv ow) :: As) fun v Bs => v = found (openF fcs ow) ∧ Bs = .ob mb (mapO cE cNv ow) :: As := by
  refine CallsS.of_tri Tryz.func81 rfl Tryz.ntmps81 rfl ?_
  (repeat' (first | ((show TL _ _ _ _ (_ :: _) _ _ _; first | refine TL.fa ?_ | refine TL.ua ?_ | (refine TL.rba ?_; intro _) | (refine TL.rra ?_; first | rintro _ _ ⟨rfl, rfl⟩ | rintro _ _ rfl) | refine TL.offa ?_ | refine TL.off0a ?_ | refine TL.gu ?_ | fail)) | (first | refine Stp.h ?_ | refine Post.then_normal ?_ | refine Post.next ?_ | refine Post.block_other rfl ?_) | ((show Tri _ _ _ (.cond _ _ _) _ _ _; first | refine Tri.cTa ?_ | refine Tri.cFa ?_ | refine Tri.condTa ?_ | refine Tri.condFa ?_ | refine Tri.condNTa ?_ | refine Tri.condNFa ?_ | fail))))
  refine TL.call rfl rfl rfl edges_ok ?_
  rintro v Bs ⟨b, rfl, rfl⟩
  (repeat' (first | ((show TL _ _ _ _ (_ :: _) _ _ _; first | refine TL.fa ?_ | refine TL.ua ?_ | (refine TL.rba ?_; intro _) | (refine TL.rra ?_; first | rintro _ _ ⟨rfl, rfl⟩ | rintro _ _ rfl) | refine TL.offa ?_ | refine TL.off0a ?_ | refine TL.gu ?_ | fail)) | (first | refine Stp.h ?_ | refine Post.then_normal ?_ | refine Post.next ?_ | refine Post.block_other rfl ?_) | ((show Tri _ _ _ (.cond _ _ _) _ _ _; first | refine Tri.cTa ?_ | refine Tri.cFa ?_ | refine Tri.condTa ?_ | refine Tri.condFa ?_ | refine Tri.condNTa ?_ | refine Tri.condNFa ?_ | fail))))
  rename_i b1 r2 r3
  refine Tri.rangeFn rfl (fun pd As' => (pd = none ∧ openP fcs ow = none ∧ As' = .cl b1 [pv, fv, .map (some mb)] 123 :: .cl r2 [.int .i64 0] 3 :: .cl r3 [.bool false] 4 :: .ob mb (mapO cE cNv ow) :: As) ∨
    (∃ p, pd = some .ret ∧ openP fcs ow = some p ∧ As' = .cl b1 [pv, fv, .map (some mb)] 123 :: .cl r2 [.int .i64 (p / 3 : Nat)] 3 :: .cl r3 [.bool true] 4 :: .ob mb (mapO cE cNv ow) :: As)) ?_ ?_ ?_
  · intro L l rb hL1 hL2 hL3 hL4 hL5 hok
    refine CallsS.ents ?_ (CallsS.mono (edges1_ok (L := L) (l := l) (b := b) (pv := pv) (fv := fv) (mv := .map (some mb)) (As := As) (Y := fun p => [.ob rb (.deferred (some [])), .cl b1 [pv, fv, .map (some mb)] 123, .cl r2 [.int .i64 0] 3, .cl r3 [.bool false] 4, .ob mb (mapO cE cNv ow)])
      (I := fun p => ∀ j, j < p → sole fcs ow j = false)
      (R := fun p Z => sole fcs ow p = true ∧ (∀ j, j < p → sole fcs ow j = false) ∧ Z = [.ob l (.loop { L with state := .done, pending := some .ret }), .ob rb (.deferred (some [])), .cl b1 [pv, fv, .map (some mb)] 123, .cl r2 [.int .i64 (p / 3 : Nat)] 3, .cl r3 [.bool true] 4, .ob mb (mapO cE cNv ow)])
      hl (by rw [hL3]; rfl) (fun j h => by omega) ?_) ?_)
    · simp only [List.cons_append, List.nil_append]
      (exact Ents.au)
    · intro p hp hI F
      generalize hu : edgeAt fcs p = u
      obtain ⟨a, b⟩ := u
      refine YieldS.of (ps := [10, 11]) hL3 hL4 hL5 rfl (by decide) hok ?_
      show Tri _ _ _ _ ((10, _) :: (11, _) :: _) (.ob l (.loop L) :: .ob rb _ :: .cl b1 _ _ :: .cl r2 _ _ :: .cl r3 _ _ :: .ob mb _ :: F) _
      (repeat' (first | ((show TL _ _ _ _ (_ :: _) _ _ _; first | refine TL.fa ?_ | refine TL.ua ?_ | (refine TL.rba ?_; intro _) | (refine TL.rra ?_; first | rintro _ _ ⟨rfl, rfl⟩ | rintro _ _ rfl) | refine TL.offa ?_ | refine TL.off0a ?_ | refine TL.gu ?_ | fail)) | (first | refine Stp.h ?_ | refine Post.then_normal ?_ | refine Post.next ?_ | refine Post.block_other rfl ?_) | ((show Tri _ _ _ (.cond _ _ _) _ _ _; first | refine Tri.cTa ?_ | refine Tri.cFa ?_ | refine Tri.condTa ?_ | refine Tri.condFa ?_ | refine Tri.condNTa ?_ | refine Tri.condNFa ?_ | fail))))
      refine Post.beginRound hL1 ?_
      (repeat' (first | ((show TL _ _ _ _ (_ :: _) _ _ _; first | refine TL.fa ?_ | refine TL.ua ?_ | (refine TL.rba ?_; intro _) | (refine TL.rra ?_; first | rintro _ _ ⟨rfl, rfl⟩ | rintro _ _ rfl) | refine TL.offa ?_ | refine TL.off0a ?_ | refine TL.gu ?_ | fail)) | (first | refine Stp.h ?_ | refine Post.then_normal ?_ | refine Post.next ?_ | refine Post.block_other rfl ?_) | ((show Tri _ _ _ (.cond _ _ _) _ _ _; first | refine Tri.cTa ?_ | refine Tri.cFa ?_ | refine Tri.condTa ?_ | refine Tri.condFa ?_ | refine Tri.condNTa ?_ | refine Tri.condNFa ?_ | fail))))
      refine Tri.draw (.take 0 (.take 1 (.take 2 (.all [(3, .take 4 (.take 5 (.take 6 (.take 7 (.take 8 (.take 9 (.done)))))))])))) rfl (by kernel_rfl) ?_
      (repeat' (first | ((show TL _ _ _ _ (_ :: _) _ _ _; first | refine TL.fa ?_ | refine TL.ua ?_ | (refine TL.rba ?_; intro _) | (refine TL.rra ?_; first | rintro _ _ ⟨rfl, rfl⟩ | rintro _ _ rfl) | refine TL.offa ?_ | refine TL.off0a ?_ | refine TL.gu ?_ | fail)) | (first | refine Stp.h ?_ | refine Post.then_normal ?_ | refine Post.next ?_ | refine Post.block_other rfl ?_) | (first | (show TT _ _ _ _ _ _ _ _ _; first | refine TT.takea ?_ | refine TT.takeMa ?_ | refine TT.takeOffa ?_ | refine TT.gu ?_ | fail) | exact TTs.nil | refine TTs.cons ?_ ?_ | (show T1 _ _ _ _ _ _ _ _ _ _; first | refine T1.ua ?_ | (refine T1.rba ?_; intro _) | (refine T1.rra ?_; first | rintro _ _ ⟨rfl, rfl⟩ | rintro _ _ rfl) | refine T1.fa ?_ | refine T1.offa ?_ | refine T1.off0a ?_ | fail) | (show TC _ _ _ _ _ _ _ _ _ _; first | refine TC.goa ?_ | refine TC.fina ?_ | fail)) | ((show Tri _ _ _ (.cond _ _ _) _ _ _; first | refine Tri.cTa ?_ | refine Tri.cFa ?_ | refine Tri.condTa ?_ | refine Tri.condFa ?_ | refine Tri.condNTa ?_ | refine Tri.condNFa ?_ | fail))))
      refine T1.call rfl rfl rfl rfl (opposite_ok (u := (a, b))) ?_
      rintro v Bs ⟨rfl, rfl⟩
      (repeat' (first | ((show TL _ _ _ _ (_ :: _) _ _ _; first | refine TL.fa ?_ | refine TL.ua ?_ | (refine TL.rba ?_; intro _) | (refine TL.rra ?_; first | rintro _ _ ⟨rfl, rfl⟩ | rintro _ _ rfl) | refine TL.offa ?_ | refine TL.off0a ?_ | refine TL.gu ?_ | fail)) | (first | refine Stp.h ?_ | refine Post.then_normal ?_ | refine Post.next ?_ | refine Post.block_other rfl ?_) | (first | (show TT _ _ _ _ _ _ _ _ _; first | refine TT.takea ?_ | refine TT.takeMa ?_ | refine TT.takeOffa ?_ | refine TT.gu ?_ | fail) | exact TTs.nil | refine TTs.cons ?_ ?_ | (show T1 _ _ _ _ _ _ _ _ _ _; first | refine T1.ua ?_ | (refine T1.rba ?_; intro _) | (refine T1.rra ?_; first | rintro _ _ ⟨rfl, rfl⟩ | rintro _ _ rfl) | refine T1.fa ?_ | refine T1.offa ?_ | refine T1.off0a ?_ | fail) | (show TC _ _ _ _ _ _ _ _ _ _; first | refine TC.goa ?_ | refine TC.fina ?_ | fail)) | ((show Tri _ _ _ (.cond _ _ _) _ _ _; first | refine Tri.cTa ?_ | refine Tri.cFa ?_ | refine Tri.condTa ?_ | refine Tri.condFa ?_ | refine Tri.condNTa ?_ | refine Tri.condNFa ?_ | fail))))
      ((show Tri _ _ _ (.cond _ _ _) _ _ _; first | refine Tri.condP rfl (fun hc => ?_) (fun hc => ?_) | refine Tri.condN rfl (fun hc => ?_) (fun hc => ?_)))
      · have hd : sole fcs ow p = true := by simpa [sole, hu] using hc
        (repeat' (first | ((show TL _ _ _ _ (_ :: _) _ _ _; first | refine TL.fa ?_ | refine TL.ua ?_ | (refine TL.rba ?_; intro _) | (refine TL.rra ?_; first | rintro _ _ ⟨rfl, rfl⟩ | rintro _ _ rfl) | refine TL.offa ?_ | refine TL.off0a ?_ | refine TL.gu ?_ | fail)) | (first | refine Stp.h ?_ | refine Post.then_normal ?_ | refine Post.next ?_ | refine Post.block_other rfl ?_) | (first | (show TT _ _ _ _ _ _ _ _ _; first | refine TT.takea ?_ | refine TT.takeMa ?_ | refine TT.takeOffa ?_ | refine TT.gu ?_ | fail) | exact TTs.nil | refine TTs.cons ?_ ?_ | (show T1 _ _ _ _ _ _ _ _ _ _; first | refine T1.ua ?_ | (refine T1.rba ?_; intro _) | (refine T1.rra ?_; first | rintro _ _ ⟨rfl, rfl⟩ | rintro _ _ rfl) | refine T1.fa ?_ | refine T1.offa ?_ | refine T1.off0a ?_ | fail) | (show TC _ _ _ _ _ _ _ _ _ _; first | refine TC.goa ?_ | refine TC.fina ?_ | fail)) | ((show Tri _ _ _ (.cond _ _ _) _ _ _; first | refine Tri.cTa ?_ | refine Tri.cFa ?_ | refine Tri.condTa ?_ | refine Tri.condFa ?_ | refine Tri.condNTa ?_ | refine Tri.condNFa ?_ | fail))))
        refine Post.endRet ⟨_, .inr ⟨rfl, _, ⟨hd, hI, rfl⟩, rfl⟩, ?_⟩
        simp only [List.cons_append, List.nil_append]
        (exact Ents.au)
      · have hd : sole fcs ow p = false := by simpa [sole, hu] using hc
        (repeat' (first | ((show TL _ _ _ _ (_ :: _) _ _ _; first | refine TL.fa ?_ | refine TL.ua ?_ | (refine TL.rba ?_; intro _) | (refine TL.rra ?_; first | rintro _ _ ⟨rfl, rfl⟩ | rintro _ _ rfl) | refine TL.offa ?_ | refine TL.off0a ?_ | refine TL.gu ?_ | fail)) | (first | refine Stp.h ?_ | refine Post.then_normal ?_ | refine Post.next ?_ | refine Post.block_other rfl ?_) | (first | (show TT _ _ _ _ _ _ _ _ _; first | refine TT.takea ?_ | refine TT.takeMa ?_ | refine TT.takeOffa ?_ | refine TT.gu ?_ | fail) | exact TTs.nil | refine TTs.cons ?_ ?_ | (show T1 _ _ _ _ _ _ _ _ _ _; first | refine T1.ua ?_ | (refine T1.rba ?_; intro _) | (refine T1.rra ?_; first | rintro _ _ ⟨rfl, rfl⟩ | rintro _ _ rfl) | refine T1.fa ?_ | refine T1.offa ?_ | refine T1.off0a ?_ | fail) | (show TC _ _ _ _ _ _ _ _ _ _; first | refine TC.goa ?_ | refine TC.fina ?_ | fail)) | ((show Tri _ _ _ (.cond _ _ _) _ _ _; first | refine Tri.cTa ?_ | refine Tri.cFa ?_ | refine Tri.condTa ?_ | refine Tri.condFa ?_ | refine Tri.condNTa ?_ | refine Tri.condNFa ?_ | fail))))
        refine Post.endRound ⟨_, .inl ⟨rfl, fun j hj => ?_, rfl⟩, ?_⟩
        · rcases Nat.lt_or_ge j p with h1 | h1
          · exact hI j h1
          · rw [show j = p from by omega]; exact hd
        · simp only [List.cons_append, List.nil_append]
          rw [show ({ L with state := .ready, pending := none } : Loop) = L from by cases L; simp only at hL1 hL2; subst hL1 hL2; rfl]
          (exact Ents.au)
    · rintro v Bs (⟨hI, rfl⟩ | ⟨p, Z, hp, ⟨hd, hI, rfl⟩, rfl⟩)
      · refine ⟨.ready, none, _, .inl ⟨rfl, findR_none hI, rfl⟩, by simp, ?_⟩
        simp only [List.cons_append, List.nil_append]
        rw [show ({ L with state := .ready, pending := none } : Loop) = L from by cases L; simp only at hL1 hL2; subst hL1 hL2; rfl]
        (exact Ents.au)
      · refine ⟨.done, some .ret, _, .inr ⟨p, rfl, findR_some hp hd hI, rfl⟩, by simp, ?_⟩
        simp only [List.cons_append, List.nil_append]
        (exact Ents.au)
  · rintro As' (⟨_, ht, rfl⟩ | ⟨p, h, _⟩)
    · intro rb
      (repeat' (first | ((show TL _ _ _ _ (_ :: _) _ _ _; first | refine TL.fa ?_ | refine TL.ua ?_ | (refine TL.rba ?_; intro _) | (refine TL.rra ?_; first | rintro _ _ ⟨rfl, rfl⟩ | rintro _ _ rfl) | refine TL.offa ?_ | refine TL.off0a ?_ | refine TL.gu ?_ | fail)) | (first | refine Stp.h ?_ | refine Post.then_normal ?_ | refine Post.next ?_ | refine Post.block_other rfl ?_) | ((show Tri _ _ _ (.cond _ _ _) _ _ _; first | refine Tri.cTa ?_ | refine Tri.cFa ?_ | refine Tri.condTa ?_ | refine Tri.condFa ?_ | refine Tri.condNTa ?_ | refine Tri.condNFa ?_ | fail))))
      refine Post.unmark ?_
      ((try refine Post.ret_normal ?_); first | refine Post.r1a ?_ | refine Post.r2a ?_ | refine Post.r3a ?_ | refine Post.r0a ?_ | fail)
      refine ⟨_, ⟨?_, rfl⟩, ?_⟩
      · simp [found, openF, ht]
      · (exact Ents.au)
    · cases h
  · rintro c As' (⟨h, _, _⟩ | ⟨p, h, ht, rfl⟩)
    · cases h
    · cases h
      intro rb
      (repeat' (first | ((show TL _ _ _ _ (_ :: _) _ _ _; first | refine TL.fa ?_ | refine TL.ua ?_ | (refine TL.rba ?_; intro _) | (refine TL.rra ?_; first | rintro _ _ ⟨rfl, rfl⟩ | rintro _ _ rfl) | refine TL.offa ?_ | refine TL.off0a ?_ | refine TL.gu ?_ | fail)) | (first | refine Stp.h ?_ | refine Post.then_normal ?_ | refine Post.next ?_ | refine Post.block_other rfl ?_) | ((show Tri _ _ _ (.cond _ _ _) _ _ _; first | refine Tri.cTa ?_ | refine Tri.cFa ?_ | refine Tri.condTa ?_ | refine Tri.condFa ?_ | refine Tri.condNTa ?_ | refine Tri.condNFa ?_ | fail))))
      refine Post.unmark ?_
      ((try refine Post.ret_normal ?_); first | refine Post.r1a ?_ | refine Post.r2a ?_ | refine Post.r3a ?_ | refine Post.r0a ?_ | fail)
      refine ⟨_, ⟨?_, rfl⟩, ?_⟩
      · simp [found, openF, ht]
      · (exact Ents.au)
end Go.Proofs.YtjpghlljcibcjaaGreatDoor
