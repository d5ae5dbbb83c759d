/- Walks: ShellKnown. -/
import Derived.Test.YtjpghlljcibcjaaGreatDoorLs4
import Derived.Test.YtjpghlljcibcjaaGreatDoorLs0
namespace Go.Proofs.YtjpghlljcibcjaaGreatDoor
open Go Go.Sx
variable {w0 : World} {As : List Ent}
set_option maxRecDepth 100000 in
set_option maxHeartbeats 8000000 in
theorem shellKnown_ok (ht : Tab w0) : CallsS Tryz.prog w0 7 [] As fun u _ => u = .bool true := by
  refine CallsS.of_tri Tryz.func7 rfl Tryz.ntmps7 rfl ?_
  (repeat' (first | ((show TL _ _ _ _ (_ :: _) _ _ _; first | refine TL.fa ?_ | refine TL.ua ?_ | (refine TL.rba ?_; intro _) | (refine TL.rra ?_; first | rintro _ _ ⟨rfl, rfl⟩ | rintro _ _ rfl) | refine TL.offa ?_ | refine TL.off0a ?_ | refine TL.gu ?_ | fail)) | (first | refine Stp.h ?_ | refine Post.then_normal ?_ | refine Post.next ?_ | refine Post.block_other rfl ?_) | ((show Tri _ _ _ (.cond _ _ _) _ _ _; first | refine Tri.cTa ?_ | refine Tri.cFa ?_ | refine Tri.condTa ?_ | refine Tri.condFa ?_ | refine Tri.condNTa ?_ | refine Tri.condNFa ?_ | fail))))
  refine TL.call rfl rfl rfl (works_ok ht) ?_
  rintro _ As ⟨rfl, rfl⟩
  (repeat' (first | ((show TL _ _ _ _ (_ :: _) _ _ _; first | refine TL.fa ?_ | refine TL.ua ?_ | (refine TL.rba ?_; intro _) | (refine TL.rra ?_; first | rintro _ _ ⟨rfl, rfl⟩ | rintro _ _ rfl) | refine TL.offa ?_ | refine TL.off0a ?_ | refine TL.gu ?_ | fail)) | (first | refine Stp.h ?_ | refine Post.then_normal ?_ | refine Post.next ?_ | refine Post.block_other rfl ?_) | ((show Tri _ _ _ (.cond _ _ _) _ _ _; first | refine Tri.cTa ?_ | refine Tri.cFa ?_ | refine Tri.condTa ?_ | refine Tri.condFa ?_ | refine Tri.condNTa ?_ | refine Tri.condNFa ?_ | fail))))
  refine TL.call rfl rfl rfl cube_ok ?_
  rintro _ _ ⟨sv, dv, rfl, rfl⟩
  refine TL.rdSl (c := cI .i64) (xs := cubeD) dv ?_
  rintro dp dc rfl
  refine TL.rdSl (c := cI .i64) (xs := [2, 2, 2]) sv ?_
  rintro sp sc rfl
  rw [show cubeD.length = 24 from rfl, show ([2, 2, 2] : List Int).length = 3 from rfl]
  (repeat' (first | ((show TL _ _ _ _ (_ :: _) _ _ _; first | refine TL.fa ?_ | refine TL.ua ?_ | (refine TL.rba ?_; intro _) | (refine TL.rra ?_; first | rintro _ _ ⟨rfl, rfl⟩ | rintro _ _ rfl) | refine TL.offa ?_ | refine TL.off0a ?_ | refine TL.gu ?_ | fail)) | (first | refine Stp.h ?_ | refine Post.then_normal ?_ | refine Post.next ?_ | refine Post.block_other rfl ?_) | ((show Tri _ _ _ (.cond _ _ _) _ _ _; first | refine Tri.cTa ?_ | refine Tri.cFa ?_ | refine Tri.condTa ?_ | refine Tri.condFa ?_ | refine Tri.condNTa ?_ | refine Tri.condNFa ?_ | fail))))
  rename_i b1
  refine Tri.loop (ι := Nat) (fun k => k ≤ 8) (fun k => 8 - k) (fun k => [(1, .pointer (some ⟨b1, 0, none⟩)), (2, .int .i64 ((1 + 3 * k : Nat) : Int))])
    (fun k => .cl b1 [.slice sp 3 sc, .int .i64 3, .slice dp 24 dc] 46 :: .ow (cI .i64) 3 (.slice dp 24 dc) (leftD k) :: .ow (cI .i64) 3 (.slice sp 3 sc) [2, 2, 2] :: As) 0 (Nat.zero_le _) (by (exact Sub.au)) (by simp only [show leftD 0 = cubeD from rfl]; (exact Ents.au)) ?_
  intro k hk
  have hll := leftD_len k
  (repeat' (first | ((show TL _ _ _ _ (_ :: _) _ _ _; first | refine TL.fa ?_ | refine TL.ua ?_ | (refine TL.rba ?_; intro _) | (refine TL.rra ?_; first | rintro _ _ ⟨rfl, rfl⟩ | rintro _ _ rfl) | refine TL.offa ?_ | refine TL.off0a ?_ | refine TL.gu ?_ | fail)) | (first | refine Stp.h ?_ | refine Post.then_normal ?_ | refine Post.next ?_ | refine Post.block_other rfl ?_) | ((show Tri _ _ _ (.cond _ _ _) _ _ _; first | refine Tri.cTa ?_ | refine Tri.cFa ?_ | refine Tri.condTa ?_ | refine Tri.condFa ?_ | refine Tri.condNTa ?_ | refine Tri.condNFa ?_ | fail))))
  ((show Tri _ _ _ (.cond _ _ _) _ _ _; first | refine Tri.condP rfl (fun hc => ?_) (fun hc => ?_) | refine Tri.condN rfl (fun hc => ?_) (fun hc => ?_)))
  · obtain ⟨y, hy⟩ : ∃ y, (leftD k)[1 + 3 * k]? = some y := ⟨_, List.getElem?_eq_getElem (by omega)⟩
    obtain ⟨y0, y1⟩ := leftD_in k (by omega) y (List.mem_of_getElem? hy)
    have hs := leftD_succ hy
    generalize leftD k = Y at hll hy hs ⊢
    (repeat' (first | ((show TL _ _ _ _ (_ :: _) _ _ _; first | refine TL.fa ?_ | refine TL.ua ?_ | (refine TL.rba ?_; intro _) | (refine TL.rra ?_; first | rintro _ _ ⟨rfl, rfl⟩ | rintro _ _ rfl) | refine TL.offa ?_ | refine TL.off0a ?_ | refine TL.gu ?_ | fail)) | (first | refine Stp.h ?_ | refine Post.then_normal ?_ | refine Post.next ?_ | refine Post.block_other rfl ?_) | ((show Tri _ _ _ (.cond _ _ _) _ _ _; first | refine Tri.cTa ?_ | refine Tri.cFa ?_ | refine Tri.condTa ?_ | refine Tri.condFa ?_ | refine Tri.condNTa ?_ | refine Tri.condNFa ?_ | fail))))
    refine Tri.dr (.take 0 (.take 1 (.take 2 (.take 3 (.take 4 (.take 5 (.take 6 (.take 7 (.take 8 (.take 9 (.all [(10, .done)]))))))))))) ?_
    (repeat' (first | ((show TL _ _ _ _ (_ :: _) _ _ _; first | refine TL.fa ?_ | refine TL.ua ?_ | (refine TL.rba ?_; intro _) | (refine TL.rra ?_; first | rintro _ _ ⟨rfl, rfl⟩ | rintro _ _ rfl) | refine TL.offa ?_ | refine TL.off0a ?_ | refine TL.gu ?_ | fail)) | (first | refine Stp.h ?_ | refine Post.then_normal ?_ | refine Post.next ?_ | refine Post.block_other rfl ?_) | (first | (show TT _ _ _ _ _ _ _ _ _; first | refine TT.takea ?_ | refine TT.takeMa ?_ | refine TT.takeOffa ?_ | refine TT.gu ?_ | fail) | exact TTs.nil | refine TTs.cons ?_ ?_ | (show T1 _ _ _ _ _ _ _ _ _ _; first | refine T1.ua ?_ | (refine T1.rba ?_; intro _) | (refine T1.rra ?_; first | rintro _ _ ⟨rfl, rfl⟩ | rintro _ _ rfl) | refine T1.fa ?_ | refine T1.offa ?_ | refine T1.off0a ?_ | fail) | (show TC _ _ _ _ _ _ _ _ _ _; first | refine TC.goa ?_ | refine TC.fina ?_ | fail)) | ((show Tri _ _ _ (.cond _ _ _) _ _ _; first | refine Tri.cTa ?_ | refine Tri.cFa ?_ | refine Tri.condTa ?_ | refine Tri.condFa ?_ | refine Tri.condNTa ?_ | refine Tri.condNFa ?_ | fail))))
    rw [show ((1 + 3 * k : Nat) : Int) + 3 = ((1 + 3 * (k + 1) : Nat) : Int) by omega]
    refine Post.round (k + 1) (by omega) (by omega) (by (exact Sub.au)) ?_
    rw [hs]
    (exact Ents.au)
  · have hk8 : k = 8 := by omega
    subst hk8
    have hlen := leftD_len 8
    (repeat' (first | ((show TL _ _ _ _ (_ :: _) _ _ _; first | refine TL.fa ?_ | refine TL.ua ?_ | (refine TL.rba ?_; intro _) | (refine TL.rra ?_; first | rintro _ _ ⟨rfl, rfl⟩ | rintro _ _ rfl) | refine TL.offa ?_ | refine TL.off0a ?_ | refine TL.gu ?_ | fail)) | (first | refine Stp.h ?_ | refine Post.then_normal ?_ | refine Post.next ?_ | refine Post.block_other rfl ?_) | (first | (show TT _ _ _ _ _ _ _ _ _; first | refine TT.takea ?_ | refine TT.takeMa ?_ | refine TT.takeOffa ?_ | refine TT.gu ?_ | fail) | exact TTs.nil | refine TTs.cons ?_ ?_ | (show T1 _ _ _ _ _ _ _ _ _ _; first | refine T1.ua ?_ | (refine T1.rba ?_; intro _) | (refine T1.rra ?_; first | rintro _ _ ⟨rfl, rfl⟩ | rintro _ _ rfl) | refine T1.fa ?_ | refine T1.offa ?_ | refine T1.off0a ?_ | fail) | (show TC _ _ _ _ _ _ _ _ _ _; first | refine TC.goa ?_ | refine TC.fina ?_ | fail)) | ((show Tri _ _ _ (.cond _ _ _) _ _ _; first | refine Tri.cTa ?_ | refine Tri.cFa ?_ | refine Tri.condTa ?_ | refine Tri.condFa ?_ | refine Tri.condNTa ?_ | refine Tri.condNFa ?_ | fail))))
    refine TL.call rfl rfl rfl (shell_ok ht (S := [2, 2, 2]) (D := leftD 8) (by decide) (by omega)) ?_
    intro _ _ h
    obtain ⟨pv, fv, rfl, h1, h2, rfl⟩ := meshR_eq left_shell h
    obtain ⟨hc2, hf0⟩ := left_f
    have hv : ∀ (E : List Ent) [RdIn E fv V3 cV3 leftFcs] [RdIn E pv V3 cV3 leftPts], CallsS Tryz.prog w0 19 [.agg #[pv, fv]] E fun v Bs => v = .tuple #[.string ⟨(textI 39321600000000000).toArray⟩, .int .i64 0] ∧ Bs = E := by
      intro E _ _
      have := volume6_ok (w0 := w0) ht (As := E) (pv := pv) (fv := fv) (pts := leftPts) (fcs := leftFcs)
      rw [if_pos left_okM, left_vol] at this
      exact this
    generalize leftPts = P at hv ⊢
    generalize leftFcs = F at hc2 hf0 hv ⊢
    generalize leftD 8 = Y at hlen ⊢
    (repeat' (first | ((show TL _ _ _ _ (_ :: _) _ _ _; first | refine TL.fa ?_ | refine TL.ua ?_ | (refine TL.rba ?_; intro _) | (refine TL.rra ?_; first | rintro _ _ ⟨rfl, rfl⟩ | rintro _ _ rfl) | refine TL.offa ?_ | refine TL.off0a ?_ | refine TL.gu ?_ | fail)) | (first | refine Stp.h ?_ | refine Post.then_normal ?_ | refine Post.next ?_ | refine Post.block_other rfl ?_) | ((show Tri _ _ _ (.cond _ _ _) _ _ _; first | refine Tri.cTa ?_ | refine Tri.cFa ?_ | refine Tri.condTa ?_ | refine Tri.condFa ?_ | refine Tri.condNTa ?_ | refine Tri.condNFa ?_ | fail))))
    refine TL.call rfl rfl rfl (hv _) ?_
    rintro _ _ ⟨rfl, rfl⟩
    (repeat' (first | ((show TL _ _ _ _ (_ :: _) _ _ _; first | refine TL.fa ?_ | refine TL.ua ?_ | (refine TL.rba ?_; intro _) | (refine TL.rra ?_; first | rintro _ _ ⟨rfl, rfl⟩ | rintro _ _ rfl) | refine TL.offa ?_ | refine TL.off0a ?_ | refine TL.gu ?_ | fail)) | (first | refine Stp.h ?_ | refine Post.then_normal ?_ | refine Post.next ?_ | refine Post.block_other rfl ?_) | ((show Tri _ _ _ (.cond _ _ _) _ _ _; first | refine Tri.cTa ?_ | refine Tri.cFa ?_ | refine Tri.condTa ?_ | refine Tri.condFa ?_ | refine Tri.condNTa ?_ | refine Tri.condNFa ?_ | fail))))
    refine TL.call rfl rfl rfl (itoa_ok ht (n := 39321600000000000) (by omega) (by omega)) ?_
    rintro _ _ ⟨rfl, rfl⟩
    (repeat' (first | ((show TL _ _ _ _ (_ :: _) _ _ _; first | refine TL.fa ?_ | refine TL.ua ?_ | (refine TL.rba ?_; intro _) | (refine TL.rra ?_; first | rintro _ _ ⟨rfl, rfl⟩ | rintro _ _ rfl) | refine TL.offa ?_ | refine TL.off0a ?_ | refine TL.gu ?_ | fail)) | (first | refine Stp.h ?_ | refine Post.then_normal ?_ | refine Post.next ?_ | refine Post.block_other rfl ?_) | ((show Tri _ _ _ (.cond _ _ _) _ _ _; first | refine Tri.cTa ?_ | refine Tri.cFa ?_ | refine Tri.condTa ?_ | refine Tri.condFa ?_ | refine Tri.condNTa ?_ | refine Tri.condNFa ?_ | fail))))
    rw [show (decide (textI 39321600000000000 = Lib.itoa 39321600000000000)) = true from decide_eq_true rfl]
    (repeat' (first | ((show TL _ _ _ _ (_ :: _) _ _ _; first | refine TL.fa ?_ | refine TL.ua ?_ | (refine TL.rba ?_; intro _) | (refine TL.rra ?_; first | rintro _ _ ⟨rfl, rfl⟩ | rintro _ _ rfl) | refine TL.offa ?_ | refine TL.off0a ?_ | refine TL.gu ?_ | fail)) | (first | refine Stp.h ?_ | refine Post.then_normal ?_ | refine Post.next ?_ | refine Post.block_other rfl ?_) | ((show Tri _ _ _ (.cond _ _ _) _ _ _; first | refine Tri.cTa ?_ | refine Tri.cFa ?_ | refine Tri.condTa ?_ | refine Tri.condFa ?_ | refine Tri.condNTa ?_ | refine Tri.condNFa ?_ | fail))))
    refine TL.ents (Ents.clW (cI .i64) [2, 3, 4] rfl (n := 3) (cap := 3) rfl rfl) ?_
    refine TL.call rfl rfl rfl (nodes_ok (xs := [2, 3, 4]) (by decide)) ?_
    rw [nodes_234]
    have hqa := nodes_234s
    generalize nodesF 2 3 4 = La at hqa ⊢
    intro _ _ h
    obtain ⟨qa, rfl, rfl⟩ := nodR_eq h
    refine TL.f rfl rfl (ExF.move rfl) ?_
    refine TL.f rfl rfl (show ExF _ _ _ _ _ _ _ qa from ExF.extract rfl rfl) ?_
    (repeat' (first | ((show TL _ _ _ _ (_ :: _) _ _ _; first | refine TL.fa ?_ | refine TL.ua ?_ | (refine TL.rba ?_; intro _) | (refine TL.rra ?_; first | rintro _ _ ⟨rfl, rfl⟩ | rintro _ _ rfl) | refine TL.offa ?_ | refine TL.off0a ?_ | refine TL.gu ?_ | fail)) | (first | refine Stp.h ?_ | refine Post.then_normal ?_ | refine Post.next ?_ | refine Post.block_other rfl ?_) | ((show Tri _ _ _ (.cond _ _ _) _ _ _; first | refine Tri.cTa ?_ | refine Tri.cFa ?_ | refine Tri.condTa ?_ | refine Tri.condFa ?_ | refine Tri.condNTa ?_ | refine Tri.condNFa ?_ | fail))))
    refine TL.ents (Ents.clW (cI .i64) [8, 8, 8] rfl (n := 3) (cap := 3) rfl rfl) ?_
    refine TL.call rfl rfl rfl (nodes_ok (xs := [8, 8, 8]) (by decide)) ?_
    rw [nodes_888]
    have hqb := nodes_888s
    generalize nodesF 8 8 8 = Lb at hqb ⊢
    intro _ _ h
    obtain ⟨qb, rfl, rfl⟩ := nodR_eq h
    refine TL.f rfl rfl (ExF.move rfl) ?_
    refine TL.f rfl rfl (show ExF _ _ _ _ _ _ _ qb from ExF.extract rfl rfl) ?_
    (repeat' (first | ((show TL _ _ _ _ (_ :: _) _ _ _; first | refine TL.fa ?_ | refine TL.ua ?_ | (refine TL.rba ?_; intro _) | (refine TL.rra ?_; first | rintro _ _ ⟨rfl, rfl⟩ | rintro _ _ rfl) | refine TL.offa ?_ | refine TL.off0a ?_ | refine TL.gu ?_ | fail)) | (first | refine Stp.h ?_ | refine Post.then_normal ?_ | refine Post.next ?_ | refine Post.block_other rfl ?_) | ((show Tri _ _ _ (.cond _ _ _) _ _ _; first | refine Tri.cTa ?_ | refine Tri.cFa ?_ | refine Tri.condTa ?_ | refine Tri.condFa ?_ | refine Tri.condNTa ?_ | refine Tri.condNFa ?_ | fail))))
    refine TL.ents (Ents.clW (cI .i64) [9, 8, 8] rfl (n := 3) (cap := 3) rfl rfl) ?_
    refine TL.call rfl rfl rfl (nodes_ok (xs := [9, 8, 8]) (by decide)) ?_
    rw [nodes_988]
    intro _ _ h
    obtain ⟨qc, rfl, rfl⟩ := nodR_eq h
    (repeat' (first | ((show TL _ _ _ _ (_ :: _) _ _ _; first | refine TL.fa ?_ | refine TL.ua ?_ | (refine TL.rba ?_; intro _) | (refine TL.rra ?_; first | rintro _ _ ⟨rfl, rfl⟩ | rintro _ _ rfl) | refine TL.offa ?_ | refine TL.off0a ?_ | refine TL.gu ?_ | fail)) | (first | refine Stp.h ?_ | refine Post.then_normal ?_ | refine Post.next ?_ | refine Post.block_other rfl ?_) | ((show Tri _ _ _ (.cond _ _ _) _ _ _; first | refine Tri.cTa ?_ | refine Tri.cFa ?_ | refine Tri.condTa ?_ | refine Tri.condFa ?_ | refine Tri.condNTa ?_ | refine Tri.condNFa ?_ | fail))))
    refine TL.ents (Ents.clW (cI .i64) [2, 2, 10] rfl (n := 3) (cap := 3) rfl rfl) ?_
    refine TL.call rfl rfl rfl (nodes_ok (xs := [2, 2, 10]) (by decide)) ?_
    rw [nodes_2210]
    intro _ _ h
    obtain ⟨qd, rfl, rfl⟩ := nodR_eq h
    (repeat' (first | ((show TL _ _ _ _ (_ :: _) _ _ _; first | refine TL.fa ?_ | refine TL.ua ?_ | (refine TL.rba ?_; intro _) | (refine TL.rra ?_; first | rintro _ _ ⟨rfl, rfl⟩ | rintro _ _ rfl) | refine TL.offa ?_ | refine TL.off0a ?_ | refine TL.gu ?_ | fail)) | (first | refine Stp.h ?_ | refine Post.then_normal ?_ | refine Post.next ?_ | refine Post.block_other rfl ?_) | ((show Tri _ _ _ (.cond _ _ _) _ _ _; first | refine Tri.cTa ?_ | refine Tri.cFa ?_ | refine Tri.condTa ?_ | refine Tri.condFa ?_ | refine Tri.condNTa ?_ | refine Tri.condNFa ?_ | fail))))
    refine TL.ents (Ents.clW (cI .i64) [2, 2, 1] rfl (n := 3) (cap := 3) rfl rfl) ?_
    refine TL.call rfl rfl rfl (nodes_ok (xs := [2, 2, 1]) (by decide)) ?_
    rw [nodes_221]
    intro _ _ h
    obtain ⟨qe, rfl, rfl⟩ := nodR_eq h
    (repeat' (first | ((show TL _ _ _ _ (_ :: _) _ _ _; first | refine TL.fa ?_ | refine TL.ua ?_ | (refine TL.rba ?_; intro _) | (refine TL.rra ?_; first | rintro _ _ ⟨rfl, rfl⟩ | rintro _ _ rfl) | refine TL.offa ?_ | refine TL.off0a ?_ | refine TL.gu ?_ | fail)) | (first | refine Stp.h ?_ | refine Post.then_normal ?_ | refine Post.next ?_ | refine Post.block_other rfl ?_) | ((show Tri _ _ _ (.cond _ _ _) _ _ _; first | refine Tri.cTa ?_ | refine Tri.cFa ?_ | refine Tri.condTa ?_ | refine Tri.condFa ?_ | refine Tri.condNTa ?_ | refine Tri.condNFa ?_ | fail))))
    refine TL.ents (Ents.clW (cI .i64) [9, 9, 9, 9] rfl (n := 4) (cap := 4) rfl rfl) ?_
    refine TL.call rfl rfl rfl (nodes_ok (xs := [9, 9, 9, 9]) (by decide)) ?_
    rw [nodes_9999]
    intro _ _ h
    obtain ⟨qf, rfl, rfl⟩ := nodR_eq h
    (repeat' (first | ((show TL _ _ _ _ (_ :: _) _ _ _; first | refine TL.fa ?_ | refine TL.ua ?_ | (refine TL.rba ?_; intro _) | (refine TL.rra ?_; first | rintro _ _ ⟨rfl, rfl⟩ | rintro _ _ rfl) | refine TL.offa ?_ | refine TL.off0a ?_ | refine TL.gu ?_ | fail)) | (first | refine Stp.h ?_ | refine Post.then_normal ?_ | refine Post.next ?_ | refine Post.block_other rfl ?_) | ((show Tri _ _ _ (.cond _ _ _) _ _ _; first | refine Tri.cTa ?_ | refine Tri.cFa ?_ | refine Tri.condTa ?_ | refine Tri.condFa ?_ | refine Tri.condNTa ?_ | refine Tri.condNFa ?_ | fail))))
    refine TL.ents (Ents.clW (cI .i64) [0, 0, 65536] rfl (n := 3) (cap := 3) rfl rfl) ?_
    refine TL.call rfl rfl rfl (color_ok (xs := [0, 0, 65536]) (by decide)) ?_
    rintro _ _ ⟨rfl, rfl⟩
    rw [color_i]
    (repeat' (first | ((show TL _ _ _ _ (_ :: _) _ _ _; first | refine TL.fa ?_ | refine TL.ua ?_ | (refine TL.rba ?_; intro _) | (refine TL.rra ?_; first | rintro _ _ ⟨rfl, rfl⟩ | rintro _ _ rfl) | refine TL.offa ?_ | refine TL.off0a ?_ | refine TL.gu ?_ | fail)) | (first | refine Stp.h ?_ | refine Post.then_normal ?_ | refine Post.next ?_ | refine Post.block_other rfl ?_) | ((show Tri _ _ _ (.cond _ _ _) _ _ _; first | refine Tri.cTa ?_ | refine Tri.cFa ?_ | refine Tri.condTa ?_ | refine Tri.condFa ?_ | refine Tri.condNTa ?_ | refine Tri.condNFa ?_ | fail))))
    refine TL.ents (Ents.clW (cI .i64) [0, -1, 0] rfl (n := 3) (cap := 3) rfl rfl) ?_
    refine TL.call rfl rfl rfl (color_ok (xs := [0, -1, 0]) (by decide)) ?_
    rintro _ _ ⟨rfl, rfl⟩
    rw [color_j]
    (repeat' (first | ((show TL _ _ _ _ (_ :: _) _ _ _; first | refine TL.fa ?_ | refine TL.ua ?_ | (refine TL.rba ?_; intro _) | (refine TL.rra ?_; first | rintro _ _ ⟨rfl, rfl⟩ | rintro _ _ rfl) | refine TL.offa ?_ | refine TL.off0a ?_ | refine TL.gu ?_ | fail)) | (first | refine Stp.h ?_ | refine Post.then_normal ?_ | refine Post.next ?_ | refine Post.block_other rfl ?_) | ((show Tri _ _ _ (.cond _ _ _) _ _ _; first | refine Tri.cTa ?_ | refine Tri.cFa ?_ | refine Tri.condTa ?_ | refine Tri.condFa ?_ | refine Tri.condNTa ?_ | refine Tri.condNFa ?_ | fail))))
    refine TL.ents (Ents.nilW (T := 3) (cI .i64)) ?_
    refine TL.call rfl rfl rfl (color_ok (xs := []) (by decide)) ?_
    rintro _ _ ⟨rfl, rfl⟩
    rw [color_k]
    (repeat' (first | ((show TL _ _ _ _ (_ :: _) _ _ _; first | refine TL.fa ?_ | refine TL.ua ?_ | (refine TL.rba ?_; intro _) | (refine TL.rra ?_; first | rintro _ _ ⟨rfl, rfl⟩ | rintro _ _ rfl) | refine TL.offa ?_ | refine TL.off0a ?_ | refine TL.gu ?_ | fail)) | (first | refine Stp.h ?_ | refine Post.then_normal ?_ | refine Post.next ?_ | refine Post.block_other rfl ?_) | ((show Tri _ _ _ (.cond _ _ _) _ _ _; first | refine Tri.cTa ?_ | refine Tri.cFa ?_ | refine Tri.condTa ?_ | refine Tri.condFa ?_ | refine Tri.condNTa ?_ | refine Tri.condNFa ?_ | fail))))
    refine TL.call rfl rfl rfl (shell_ok ht (S := []) (D := []) (by decide) (by decide)) ?_
    intro _ _ h
    obtain ⟨pl, fl, rfl, l1, l2, rfl⟩ := meshR_eq shell_l h
    (repeat' (first | ((show TL _ _ _ _ (_ :: _) _ _ _; first | refine TL.fa ?_ | refine TL.ua ?_ | (refine TL.rba ?_; intro _) | (refine TL.rra ?_; first | rintro _ _ ⟨rfl, rfl⟩ | rintro _ _ rfl) | refine TL.offa ?_ | refine TL.off0a ?_ | refine TL.gu ?_ | fail)) | (first | refine Stp.h ?_ | refine Post.then_normal ?_ | refine Post.next ?_ | refine Post.block_other rfl ?_) | ((show Tri _ _ _ (.cond _ _ _) _ _ _; first | refine Tri.cTa ?_ | refine Tri.cFa ?_ | refine Tri.condTa ?_ | refine Tri.condFa ?_ | refine Tri.condNTa ?_ | refine Tri.condNFa ?_ | fail))))
    refine TL.ents (Ents.clW (cI .i64) [2, 2, 2] rfl (n := 3) (cap := 3) rfl rfl) ?_
    refine TL.rr rfl rfl (ExR.makeZ (cd := cI .i64) (n := 16) rfl rfl (by omega) (by omega) (by omega) (by omega)) ?_
    rintro zn _ rfl
    refine TL.rdSl (c := cI .i64) (xs := List.replicate 16 0) zn ?_
    rintro zpn zcn rfl
    rw [List.length_replicate]
    (repeat' (first | ((show TL _ _ _ _ (_ :: _) _ _ _; first | refine TL.fa ?_ | refine TL.ua ?_ | (refine TL.rba ?_; intro _) | (refine TL.rra ?_; first | rintro _ _ ⟨rfl, rfl⟩ | rintro _ _ rfl) | refine TL.offa ?_ | refine TL.off0a ?_ | refine TL.gu ?_ | fail)) | (first | refine Stp.h ?_ | refine Post.then_normal ?_ | refine Post.next ?_ | refine Post.block_other rfl ?_) | ((show Tri _ _ _ (.cond _ _ _) _ _ _; first | refine Tri.cTa ?_ | refine Tri.cFa ?_ | refine Tri.condTa ?_ | refine Tri.condFa ?_ | refine Tri.condNTa ?_ | refine Tri.condNFa ?_ | fail))))
    refine TL.call rfl rfl rfl (shell_ok ht (S := [2, 2, 2]) (D := List.replicate 16 0) (by decide) (by rw [List.length_replicate]; omega)) ?_
    intro _ _ h
    obtain ⟨pn, fn, rfl, n1, n2, rfl⟩ := meshR_eq shell_n h
    generalize List.replicate 16 (0 : Int) = Rn
    (repeat' (first | ((show TL _ _ _ _ (_ :: _) _ _ _; first | refine TL.fa ?_ | refine TL.ua ?_ | (refine TL.rba ?_; intro _) | (refine TL.rra ?_; first | rintro _ _ ⟨rfl, rfl⟩ | rintro _ _ rfl) | refine TL.offa ?_ | refine TL.off0a ?_ | refine TL.gu ?_ | fail)) | (first | refine Stp.h ?_ | refine Post.then_normal ?_ | refine Post.next ?_ | refine Post.block_other rfl ?_) | ((show Tri _ _ _ (.cond _ _ _) _ _ _; first | refine Tri.cTa ?_ | refine Tri.cFa ?_ | refine Tri.condTa ?_ | refine Tri.condFa ?_ | refine Tri.condNTa ?_ | refine Tri.condNFa ?_ | fail))))
    refine TL.ents (Ents.clW (cI .i64) [9, 9, 9] rfl (n := 3) (cap := 3) rfl rfl) ?_
    refine TL.rr rfl rfl (ExR.makeZ (cd := cI .i64) (n := 2187) rfl rfl (by omega) (by omega) (by omega) (by omega)) ?_
    rintro zo _ rfl
    refine TL.rdSl (c := cI .i64) (xs := List.replicate 2187 0) zo ?_
    rintro zpo zco rfl
    rw [List.length_replicate]
    (repeat' (first | ((show TL _ _ _ _ (_ :: _) _ _ _; first | refine TL.fa ?_ | refine TL.ua ?_ | (refine TL.rba ?_; intro _) | (refine TL.rra ?_; first | rintro _ _ ⟨rfl, rfl⟩ | rintro _ _ rfl) | refine TL.offa ?_ | refine TL.off0a ?_ | refine TL.gu ?_ | fail)) | (first | refine Stp.h ?_ | refine Post.then_normal ?_ | refine Post.next ?_ | refine Post.block_other rfl ?_) | ((show Tri _ _ _ (.cond _ _ _) _ _ _; first | refine Tri.cTa ?_ | refine Tri.cFa ?_ | refine Tri.condTa ?_ | refine Tri.condFa ?_ | refine Tri.condNTa ?_ | refine Tri.condNFa ?_ | fail))))
    refine TL.call rfl rfl rfl (shell_ok ht (S := [9, 9, 9]) (D := List.replicate 2187 0) (by decide) (by rw [List.length_replicate]; omega)) ?_
    intro _ _ h
    obtain ⟨po, fo, rfl, o1, o2, rfl⟩ := meshR_eq shell_o h
    generalize List.replicate 2187 (0 : Int) = Ro
    (repeat' (first | ((show TL _ _ _ _ (_ :: _) _ _ _; first | refine TL.fa ?_ | refine TL.ua ?_ | (refine TL.rba ?_; intro _) | (refine TL.rra ?_; first | rintro _ _ ⟨rfl, rfl⟩ | rintro _ _ rfl) | refine TL.offa ?_ | refine TL.off0a ?_ | refine TL.gu ?_ | fail)) | (first | refine Stp.h ?_ | refine Post.then_normal ?_ | refine Post.next ?_ | refine Post.block_other rfl ?_) | ((show Tri _ _ _ (.cond _ _ _) _ _ _; first | refine Tri.cTa ?_ | refine Tri.cFa ?_ | refine Tri.condTa ?_ | refine Tri.condFa ?_ | refine Tri.condNTa ?_ | refine Tri.condNFa ?_ | fail))))
    refine TL.call rfl rfl rfl cube_ok ?_
    rintro _ _ ⟨sv2, dv2, rfl, rfl⟩
    refine TL.rdSl (c := cI .i64) (xs := cubeD) dv2 ?_
    rintro dp2 dc2 rfl
    refine TL.rdSl (c := cI .i64) (xs := [2, 2, 2]) sv2 ?_
    rintro sp2 sc2 rfl
    rw [show cubeD.length = 24 from rfl, show ([2, 2, 2] : List Int).length = 3 from rfl]
    (repeat' (first | ((show TL _ _ _ _ (_ :: _) _ _ _; first | refine TL.fa ?_ | refine TL.ua ?_ | (refine TL.rba ?_; intro _) | (refine TL.rra ?_; first | rintro _ _ ⟨rfl, rfl⟩ | rintro _ _ rfl) | refine TL.offa ?_ | refine TL.off0a ?_ | refine TL.gu ?_ | fail)) | (first | refine Stp.h ?_ | refine Post.then_normal ?_ | refine Post.next ?_ | refine Post.block_other rfl ?_) | ((show Tri _ _ _ (.cond _ _ _) _ _ _; first | refine Tri.cTa ?_ | refine Tri.cFa ?_ | refine Tri.condTa ?_ | refine Tri.condFa ?_ | refine Tri.condNTa ?_ | refine Tri.condNFa ?_ | fail))))
    rename_i b31
    refine Tri.loop (ι := Nat) (fun k => k ≤ 8) (fun k => 8 - k) (fun k => [(7, qa), (8, .int .i64 0), (9, qb), (10, .int .i64 0), (12, .int .i64 3), (14, .int .i64 2), (16, .int .i64 2), (18, .int .i64 2), (20, .int .i64 2), (22, .int .i64 2), (24, .int .i64 2), (26, .int .i64 100), (28, .int .i64 2), (30, .int .i64 3), (31, .pointer (some ⟨b31, 0, none⟩)), (32, .int .i64 ((3 * k : Nat) : Int))])
      (fun k => .cl b31 [.slice sp2 3 sc2, .int .i64 3, .slice dp2 24 dc2] 46 :: .ow (cI .i64) 3 (.slice dp2 24 dc2) (fiveD k) :: .ow (cI .i64) 3 (.slice sp2 3 sc2) [2, 2, 2] :: .ow cV3 27 qb Lb :: .ow cV3 27 qa La :: []) 0 (Nat.zero_le _) (by (exact Sub.au)) (by simp only [show fiveD 0 = cubeD from rfl]; (exact Ents.au)) ?_
    intro k hk
    have hll2 := fiveD_len k
    (repeat' (first | ((show TL _ _ _ _ (_ :: _) _ _ _; first | refine TL.fa ?_ | refine TL.ua ?_ | (refine TL.rba ?_; intro _) | (refine TL.rra ?_; first | rintro _ _ ⟨rfl, rfl⟩ | rintro _ _ rfl) | refine TL.offa ?_ | refine TL.off0a ?_ | refine TL.gu ?_ | fail)) | (first | refine Stp.h ?_ | refine Post.then_normal ?_ | refine Post.next ?_ | refine Post.block_other rfl ?_) | ((show Tri _ _ _ (.cond _ _ _) _ _ _; first | refine Tri.cTa ?_ | refine Tri.cFa ?_ | refine Tri.condTa ?_ | refine Tri.condFa ?_ | refine Tri.condNTa ?_ | refine Tri.condNFa ?_ | fail))))
    ((show Tri _ _ _ (.cond _ _ _) _ _ _; first | refine Tri.condP rfl (fun hc => ?_) (fun hc => ?_) | refine Tri.condN rfl (fun hc => ?_) (fun hc => ?_)))
    · have hs : fiveD (k + 1) = (fiveD k).set (3 * k) 5 := rfl
      obtain ⟨y, hy⟩ : ∃ y, (fiveD k)[3 * k]? = some y := ⟨_, List.getElem?_eq_getElem (by omega)⟩
      generalize fiveD k = Z at hll2 hs hy ⊢
      (repeat' (first | ((show TL _ _ _ _ (_ :: _) _ _ _; first | refine TL.fa ?_ | refine TL.ua ?_ | (refine TL.rba ?_; intro _) | (refine TL.rra ?_; first | rintro _ _ ⟨rfl, rfl⟩ | rintro _ _ rfl) | refine TL.offa ?_ | refine TL.off0a ?_ | refine TL.gu ?_ | fail)) | (first | refine Stp.h ?_ | refine Post.then_normal ?_ | refine Post.next ?_ | refine Post.block_other rfl ?_) | ((show Tri _ _ _ (.cond _ _ _) _ _ _; first | refine Tri.cTa ?_ | refine Tri.cFa ?_ | refine Tri.condTa ?_ | refine Tri.condFa ?_ | refine Tri.condNTa ?_ | refine Tri.condNFa ?_ | fail))))
      rw [show ((3 * k : Nat) : Int) + 3 = ((3 * (k + 1) : Nat) : Int) by omega]
      refine Post.round (k + 1) (by omega) (by omega) (by (exact Sub.au)) ?_
      rw [hs]
      (exact Ents.au)
    · have hk8 : k = 8 := by omega
      subst hk8
      have hlen2 := fiveD_len 8
      (repeat' (first | ((show TL _ _ _ _ (_ :: _) _ _ _; first | refine TL.fa ?_ | refine TL.ua ?_ | (refine TL.rba ?_; intro _) | (refine TL.rra ?_; first | rintro _ _ ⟨rfl, rfl⟩ | rintro _ _ rfl) | refine TL.offa ?_ | refine TL.off0a ?_ | refine TL.gu ?_ | fail)) | (first | refine Stp.h ?_ | refine Post.then_normal ?_ | refine Post.next ?_ | refine Post.block_other rfl ?_) | ((show Tri _ _ _ (.cond _ _ _) _ _ _; first | refine Tri.cTa ?_ | refine Tri.cFa ?_ | refine Tri.condTa ?_ | refine Tri.condFa ?_ | refine Tri.condNTa ?_ | refine Tri.condNFa ?_ | fail))))
      refine TL.call rfl rfl rfl (shell_ok ht (S := [2, 2, 2]) (D := fiveD 8) (by decide) (by omega)) ?_
      intro _ _ h
      obtain ⟨pz, fz, rfl, z1, z2, rfl⟩ := meshR_eq shell_p h
      (repeat' (first | ((show TL _ _ _ _ (_ :: _) _ _ _; first | refine TL.fa ?_ | refine TL.ua ?_ | (refine TL.rba ?_; intro _) | (refine TL.rra ?_; first | rintro _ _ ⟨rfl, rfl⟩ | rintro _ _ rfl) | refine TL.offa ?_ | refine TL.off0a ?_ | refine TL.gu ?_ | fail)) | (first | refine Stp.h ?_ | refine Post.then_normal ?_ | refine Post.next ?_ | refine Post.block_other rfl ?_) | ((show Tri _ _ _ (.cond _ _ _) _ _ _; first | refine Tri.cTa ?_ | refine Tri.cFa ?_ | refine Tri.condTa ?_ | refine Tri.condFa ?_ | refine Tri.condNTa ?_ | refine Tri.condNFa ?_ | fail))))
      refine TL.call rfl rfl rfl (color37_at color_low) ?_
      rintro _ _ ⟨rfl, rfl⟩
      (repeat' (first | ((show TL _ _ _ _ (_ :: _) _ _ _; first | refine TL.fa ?_ | refine TL.ua ?_ | (refine TL.rba ?_; intro _) | (refine TL.rra ?_; first | rintro _ _ ⟨rfl, rfl⟩ | rintro _ _ rfl) | refine TL.offa ?_ | refine TL.off0a ?_ | refine TL.gu ?_ | fail)) | (first | refine Stp.h ?_ | refine Post.then_normal ?_ | refine Post.next ?_ | refine Post.block_other rfl ?_) | ((show Tri _ _ _ (.cond _ _ _) _ _ _; first | refine Tri.cTa ?_ | refine Tri.cFa ?_ | refine Tri.condTa ?_ | refine Tri.condFa ?_ | refine Tri.condNTa ?_ | refine Tri.condNFa ?_ | fail))))
      ((try refine Post.ret_normal ?_); first | refine Post.r1a ?_ | refine Post.r2a ?_ | refine Post.r3a ?_ | refine Post.r0a ?_ | fail)
      exact ⟨[], rfl, Ents.of_cov inferInstance⟩
end Go.Proofs.YtjpghlljcibcjaaGreatDoor
