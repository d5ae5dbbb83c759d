/- Walks: points that are no corners; faces that are not reached. -/
import Derived.Test.YtjpghlljcibcjaaGreatDoorMa1
import Derived.Test.YtjpghlljcibcjaaGreatDoorPl
namespace Go.Proofs.YtjpghlljcibcjaaGreatDoor
open Go Go.Sx
instance : ElC Tryz.prog 4 Bool cB false 1 := ⟨by obtain ⟨i, h1, h2, h3, h4⟩ := (inferInstance : TI Tryz.prog 4 _ _ _).info; exact ⟨i, _, h1, h2, h3, h4, rfl⟩, by decide⟩
instance : ElC Tryz.prog 3 Nat (cN .i64) 0 8 := ⟨by obtain ⟨i, h1, h2, h3, h4⟩ := (inferInstance : TI Tryz.prog 3 _ _ _).info; exact ⟨i, _, h1, h2, h3, h4, rfl⟩, by decide⟩
variable {w0 : World} {As : List Ent} {pv fv mv : Value} {pts fcs : List V3}
theorem index_ok {v : Value} {xs : List Bool} {b : Bool} [RdIn As v Bool cB xs] (hl : xs.length ≤ 1000000000) : CallsS Tryz.prog w0 104 [v, .bool b] As fun u Bs => u = .int .i64 (idxOf xs b) ∧ Bs = As := by
  refine CallsS.of_tri Tryz.func104 rfl Tryz.ntmps104 rfl ?_
  (repeat' (first | ((show TL _ _ _ _ (_ :: _) _ _ _; first | refine TL.fa ?_ | refine TL.ua ?_ | (refine TL.rba ?_; intro _) | (refine TL.rra ?_; first | rintro _ _ ⟨rfl, rfl⟩ | rintro _ _ rfl) | refine TL.offa ?_ | refine TL.off0a ?_ | refine TL.gu ?_ | fail)) | (first | refine Stp.h ?_ | refine Post.then_normal ?_ | refine Post.next ?_ | refine Post.block_other rfl ?_) | ((show Tri _ _ _ (.cond _ _ _) _ _ _; first | refine Tri.cTa ?_ | refine Tri.cFa ?_ | refine Tri.condTa ?_ | refine Tri.condFa ?_ | refine Tri.condNTa ?_ | refine Tri.condNFa ?_ | fail))))
  refine Tri.loop (ι := Nat) (fun k => k ≤ xs.length ∧ ∀ (j : Nat) (y : Bool), j < k → xs[j]? = some y → (y == b) = false) (fun k => xs.length - k)
    (fun k => [(0, v), (1, .bool b), (7, .int .i64 xs.length), (8, .int .i64 k)]) (fun _ => As) 0 ⟨by omega, fun _ _ h => by omega⟩ (by (exact Sub.au)) (by (exact Ents.au)) ?_
  intro k ⟨hk, hf⟩
  (repeat' (first | ((show TL _ _ _ _ (_ :: _) _ _ _; first | refine TL.fa ?_ | refine TL.ua ?_ | (refine TL.rba ?_; intro _) | (refine TL.rra ?_; first | rintro _ _ ⟨rfl, rfl⟩ | rintro _ _ rfl) | refine TL.offa ?_ | refine TL.off0a ?_ | refine TL.gu ?_ | fail)) | (first | refine Stp.h ?_ | refine Post.then_normal ?_ | refine Post.next ?_ | refine Post.block_other rfl ?_) | ((show Tri _ _ _ (.cond _ _ _) _ _ _; first | refine Tri.cTa ?_ | refine Tri.cFa ?_ | refine Tri.condTa ?_ | refine Tri.condFa ?_ | refine Tri.condNTa ?_ | refine Tri.condNFa ?_ | fail))))
  ((show Tri _ _ _ (.cond _ _ _) _ _ _; first | refine Tri.condP rfl (fun hc => ?_) (fun hc => ?_) | refine Tri.condN rfl (fun hc => ?_) (fun hc => ?_)))
  · obtain ⟨p, hp⟩ : ∃ p, xs[k]? = some p := ⟨_, List.getElem?_eq_getElem (by omega)⟩
    (repeat' (first | ((show TL _ _ _ _ (_ :: _) _ _ _; first | refine TL.fa ?_ | refine TL.ua ?_ | (refine TL.rba ?_; intro _) | (refine TL.rra ?_; first | rintro _ _ ⟨rfl, rfl⟩ | rintro _ _ rfl) | refine TL.offa ?_ | refine TL.off0a ?_ | refine TL.gu ?_ | fail)) | (first | refine Stp.h ?_ | refine Post.then_normal ?_ | refine Post.next ?_ | refine Post.block_other rfl ?_) | ((show Tri _ _ _ (.cond _ _ _) _ _ _; first | refine Tri.cTa ?_ | refine Tri.cFa ?_ | refine Tri.condTa ?_ | refine Tri.condFa ?_ | refine Tri.condNTa ?_ | refine Tri.condNFa ?_ | fail))))
    ((show Tri _ _ _ (.cond _ _ _) _ _ _; first | refine Tri.condP rfl (fun hc => ?_) (fun hc => ?_) | refine Tri.condN rfl (fun hc => ?_) (fun hc => ?_)))
    · (repeat' (first | ((show TL _ _ _ _ (_ :: _) _ _ _; first | refine TL.fa ?_ | refine TL.ua ?_ | (refine TL.rba ?_; intro _) | (refine TL.rra ?_; first | rintro _ _ ⟨rfl, rfl⟩ | rintro _ _ rfl) | refine TL.offa ?_ | refine TL.off0a ?_ | refine TL.gu ?_ | fail)) | (first | refine Stp.h ?_ | refine Post.then_normal ?_ | refine Post.next ?_ | refine Post.block_other rfl ?_) | ((show Tri _ _ _ (.cond _ _ _) _ _ _; first | refine Tri.cTa ?_ | refine Tri.cFa ?_ | refine Tri.condTa ?_ | refine Tri.condFa ?_ | refine Tri.condNTa ?_ | refine Tri.condNFa ?_ | fail))))
      ((try refine Post.ret_normal ?_); first | refine Post.r1a ?_ | refine Post.r2a ?_ | refine Post.r3a ?_ | refine Post.r0a ?_ | fail)
      exact ⟨_, ⟨by rw [idxOf, find_some hp (by simp_all) hf], rfl⟩, by (exact Ents.au)⟩
    · (repeat' (first | ((show TL _ _ _ _ (_ :: _) _ _ _; first | refine TL.fa ?_ | refine TL.ua ?_ | (refine TL.rba ?_; intro _) | (refine TL.rra ?_; first | rintro _ _ ⟨rfl, rfl⟩ | rintro _ _ rfl) | refine TL.offa ?_ | refine TL.off0a ?_ | refine TL.gu ?_ | fail)) | (first | refine Stp.h ?_ | refine Post.then_normal ?_ | refine Post.next ?_ | refine Post.block_other rfl ?_) | ((show Tri _ _ _ (.cond _ _ _) _ _ _; first | refine Tri.cTa ?_ | refine Tri.cFa ?_ | refine Tri.condTa ?_ | refine Tri.condFa ?_ | refine Tri.condNTa ?_ | refine Tri.condNFa ?_ | fail))))
      refine Post.round (k + 1) ⟨by omega, fun j y hj hy => ?_⟩ (by omega) (by (exact Sub.au)) (by (exact Ents.au))
      rcases Nat.lt_or_ge j k with h1 | h1
      · exact hf j y h1 hy
      · rw [show j = k from (by omega), hp] at hy; cases hy
        cases p <;> cases b <;> simp_all
  · (repeat' (first | ((show TL _ _ _ _ (_ :: _) _ _ _; first | refine TL.fa ?_ | refine TL.ua ?_ | (refine TL.rba ?_; intro _) | (refine TL.rra ?_; first | rintro _ _ ⟨rfl, rfl⟩ | rintro _ _ rfl) | refine TL.offa ?_ | refine TL.off0a ?_ | refine TL.gu ?_ | fail)) | (first | refine Stp.h ?_ | refine Post.then_normal ?_ | refine Post.next ?_ | refine Post.block_other rfl ?_) | ((show Tri _ _ _ (.cond _ _ _) _ _ _; first | refine Tri.cTa ?_ | refine Tri.cFa ?_ | refine Tri.condTa ?_ | refine Tri.condFa ?_ | refine Tri.condNTa ?_ | refine Tri.condNFa ?_ | fail))))
    ((try refine Post.ret_normal ?_); first | refine Post.r1a ?_ | refine Post.r2a ?_ | refine Post.r3a ?_ | refine Post.r0a ?_ | fail)
    have : xs.findIdx? (· == b) = none := find_none fun j y hj => hf j y (by have := (List.getElem?_eq_some_iff.1 hj).1; omega) hj
    exact ⟨_, ⟨by rw [idxOf, this], rfl⟩, by (exact Ents.au)⟩
theorem spare_ok [RdIn As fv V3 cV3 fcs] [RdIn As pv V3 cV3 pts] (hl : fcs.length ≤ 1000000000) (hl' : pts.length ≤ 1000000000) (hw : ∀ f ∈ fcs, isWrong pts.length f = false) :
    CallsS Tryz.prog w0 82 [.agg #[pv, fv, mv]] As fun v Bs => v = found (spareF pts.length fcs) ∧ Bs = As := by
  refine CallsS.of_tri Tryz.func82 rfl Tryz.ntmps82 rfl ?_
  (repeat' (first | ((show TL _ _ _ _ (_ :: _) _ _ _; first | refine TL.fa ?_ | refine TL.ua ?_ | (refine TL.rba ?_; intro _) | (refine TL.rra ?_; first | rintro _ _ ⟨rfl, rfl⟩ | rintro _ _ rfl) | refine TL.offa ?_ | refine TL.off0a ?_ | refine TL.gu ?_ | fail)) | (first | refine Stp.h ?_ | refine Post.then_normal ?_ | refine Post.next ?_ | refine Post.block_other rfl ?_) | ((show Tri _ _ _ (.cond _ _ _) _ _ _; first | refine Tri.cTa ?_ | refine Tri.cFa ?_ | refine Tri.condTa ?_ | refine Tri.condFa ?_ | refine Tri.condNTa ?_ | refine Tri.condNFa ?_ | fail))))
  rename_i b1 uv
  refine Tri.loop (ι := Nat) (fun k => k ≤ fcs.length) (fun k => fcs.length - k)
    (fun k => [(1, .pointer (some ⟨b1, 0, none⟩)), (4, uv), (17, fv), (18, .int .i64 fcs.length), (19, .int .i64 k)])
    (fun k => .ow cB 4 uv ((fcs.take k).foldl mark1 (List.replicate pts.length false)) :: .cl b1 [pv, fv, mv] 123 :: As) 0 (by omega) (by (exact Sub.au)) (by simp only [List.take_zero, List.foldl_nil]; (exact Ents.au)) ?_
  intro k hk
  generalize hu : (fcs.take k).foldl mark1 (List.replicate pts.length false) = us
  have hul : us.length = pts.length := by rw [← hu, foldl_mark_length]; simp
  (repeat' (first | ((show TL _ _ _ _ (_ :: _) _ _ _; first | refine TL.fa ?_ | refine TL.ua ?_ | (refine TL.rba ?_; intro _) | (refine TL.rra ?_; first | rintro _ _ ⟨rfl, rfl⟩ | rintro _ _ rfl) | refine TL.offa ?_ | refine TL.off0a ?_ | refine TL.gu ?_ | fail)) | (first | refine Stp.h ?_ | refine Post.then_normal ?_ | refine Post.next ?_ | refine Post.block_other rfl ?_) | ((show Tri _ _ _ (.cond _ _ _) _ _ _; first | refine Tri.cTa ?_ | refine Tri.cFa ?_ | refine Tri.condTa ?_ | refine Tri.condFa ?_ | refine Tri.condNTa ?_ | refine Tri.condNFa ?_ | fail))))
  ((show Tri _ _ _ (.cond _ _ _) _ _ _; first | refine Tri.condP rfl (fun hc => ?_) (fun hc => ?_) | refine Tri.condN rfl (fun hc => ?_) (fun hc => ?_)))
  · obtain ⟨f, hp⟩ : ∃ p, fcs[k]? = some p := ⟨_, List.getElem?_eq_getElem (by omega)⟩
    have hv := hw f (List.mem_of_getElem? hp)
    simp only [isWrong, Bool.or_eq_false_iff, decide_eq_false_iff_not] at hv
    obtain ⟨i, hi⟩ : ∃ i : Nat, f.x = (i : Int) := ⟨f.x.toNat, by omega⟩
    obtain ⟨j, hj⟩ : ∃ i : Nat, f.y = (i : Int) := ⟨f.y.toNat, by omega⟩
    obtain ⟨l, hl'⟩ : ∃ i : Nat, f.z = (i : Int) := ⟨f.z.toNat, by omega⟩
    obtain ⟨fx, fy, fz⟩ := f
    simp only at hi hj hl' hv
    subst hi hj hl'
    have hm : mark1 us ⟨(i : Int), (j : Int), (l : Int)⟩ = ((us.set i true).set j true).set l true := by simp [mark1]
    obtain ⟨q1, e1⟩ : ∃ p, us[i]? = some p := ⟨_, List.getElem?_eq_getElem (by omega)⟩
    obtain ⟨q2, e2⟩ : ∃ p, (us.set i true)[j]? = some p := ⟨_, List.getElem?_eq_getElem (by simp; omega)⟩
    obtain ⟨q3, e3⟩ : ∃ p, ((us.set i true).set j true)[l]? = some p := ⟨_, List.getElem?_eq_getElem (by simp; omega)⟩
    have l2 : (us.set i true).length = us.length := List.length_set
    have l3 : ((us.set i true).set j true).length = us.length := by rw [List.length_set, List.length_set]
    (repeat' (first | ((show TL _ _ _ _ (_ :: _) _ _ _; first | refine TL.fa ?_ | refine TL.ua ?_ | (refine TL.rba ?_; intro _) | (refine TL.rra ?_; first | rintro _ _ ⟨rfl, rfl⟩ | rintro _ _ rfl) | refine TL.offa ?_ | refine TL.off0a ?_ | refine TL.gu ?_ | fail)) | (first | refine Stp.h ?_ | refine Post.then_normal ?_ | refine Post.next ?_ | refine Post.block_other rfl ?_) | ((show Tri _ _ _ (.cond _ _ _) _ _ _; first | refine Tri.cTa ?_ | refine Tri.cFa ?_ | refine Tri.condTa ?_ | refine Tri.condFa ?_ | refine Tri.condNTa ?_ | refine Tri.condNFa ?_ | fail))))
    refine Tri.unroll 4 ?_
    (repeat' (first | ((show TL _ _ _ _ (_ :: _) _ _ _; first | refine TL.fa ?_ | refine TL.ua ?_ | (refine TL.rba ?_; intro _) | (refine TL.rra ?_; first | rintro _ _ ⟨rfl, rfl⟩ | rintro _ _ rfl) | refine TL.offa ?_ | refine TL.off0a ?_ | refine TL.gu ?_ | fail)) | (first | refine Stp.h ?_ | refine Post.then_normal ?_ | refine Post.next ?_ | refine Post.block_other rfl ?_) | ((show Tri _ _ _ (.cond _ _ _) _ _ _; first | refine Tri.cTa ?_ | refine Tri.cFa ?_ | refine Tri.condTa ?_ | refine Tri.condFa ?_ | refine Tri.condNTa ?_ | refine Tri.condNFa ?_ | fail))))
    (repeat' (first | ((show TL _ _ _ _ (_ :: _) _ _ _; first | refine TL.fa ?_ | refine TL.ua ?_ | (refine TL.rba ?_; intro _) | (refine TL.rra ?_; first | rintro _ _ ⟨rfl, rfl⟩ | rintro _ _ rfl) | refine TL.offa ?_ | refine TL.off0a ?_ | refine TL.gu ?_ | fail)) | (first | refine Stp.h ?_ | refine Post.then_normal ?_ | refine Post.next ?_ | refine Post.block_other rfl ?_) | ((show Tri _ _ _ (.cond _ _ _) _ _ _; first | refine Tri.cTa ?_ | refine Tri.cFa ?_ | refine Tri.condTa ?_ | refine Tri.condFa ?_ | refine Tri.condNTa ?_ | refine Tri.condNFa ?_ | fail))))
    refine Post.round (k + 1) (by omega) (by omega) (by (exact Sub.au)) ?_
    simp only [take_succ_foldl hp, hu, hm]
    (exact Ents.au)
  · (repeat' (first | ((show TL _ _ _ _ (_ :: _) _ _ _; first | refine TL.fa ?_ | refine TL.ua ?_ | (refine TL.rba ?_; intro _) | (refine TL.rra ?_; first | rintro _ _ ⟨rfl, rfl⟩ | rintro _ _ rfl) | refine TL.offa ?_ | refine TL.off0a ?_ | refine TL.gu ?_ | fail)) | (first | refine Stp.h ?_ | refine Post.then_normal ?_ | refine Post.next ?_ | refine Post.block_other rfl ?_) | ((show Tri _ _ _ (.cond _ _ _) _ _ _; first | refine Tri.cTa ?_ | refine Tri.cFa ?_ | refine Tri.condTa ?_ | refine Tri.condFa ?_ | refine Tri.condNTa ?_ | refine Tri.condNFa ?_ | fail))))
    refine TL.call rfl rfl rfl (index_ok (by omega)) ?_
    rintro v Bs ⟨rfl, rfl⟩
    (repeat' (first | ((show TL _ _ _ _ (_ :: _) _ _ _; first | refine TL.fa ?_ | refine TL.ua ?_ | (refine TL.rba ?_; intro _) | (refine TL.rra ?_; first | rintro _ _ ⟨rfl, rfl⟩ | rintro _ _ rfl) | refine TL.offa ?_ | refine TL.off0a ?_ | refine TL.gu ?_ | fail)) | (first | refine Stp.h ?_ | refine Post.then_normal ?_ | refine Post.next ?_ | refine Post.block_other rfl ?_) | ((show Tri _ _ _ (.cond _ _ _) _ _ _; first | refine Tri.cTa ?_ | refine Tri.cFa ?_ | refine Tri.condTa ?_ | refine Tri.condFa ?_ | refine Tri.condNTa ?_ | refine Tri.condNFa ?_ | fail))))
    ((try refine Post.ret_normal ?_); first | refine Post.r1a ?_ | refine Post.r2a ?_ | refine Post.r3a ?_ | refine Post.r0a ?_ | fail)
    have hk' : k = fcs.length := by omega
    subst hk'
    rw [List.take_length] at hu
    refine ⟨_, ⟨?_, rfl⟩, by (exact Ents.au)⟩
    rw [spareF, usedF, hu, found_idx]
end Go.Proofs.YtjpghlljcibcjaaGreatDoor
