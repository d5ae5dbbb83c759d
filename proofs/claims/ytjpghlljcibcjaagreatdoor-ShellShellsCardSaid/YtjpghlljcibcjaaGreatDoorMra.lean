/- Walks: the reference of the chapter on meshes: what is measured. -/
import Derived.Test.YtjpghlljcibcjaaGreatDoorMr1
import Derived.Test.YtjpghlljcibcjaaGreatDoorMb2
import Derived.Test.YtjpghlljcibcjaaGreatDoorVa1
namespace Go.Sx
end Go.Sx
namespace Go.Proofs.YtjpghlljcibcjaaGreatDoor
open Go Go.Sx
variable {w0 : World} {As : List Ent} {pv fv : Value} {pts fcs : List V3}
theorem dotR_ok {p q : V3} {m n : Int} (hp : p.in m) (hq : q.in n) (g0 : 0 ≤ m) (g1 : 0 ≤ n) (hm : 3 * (m * n) ≤ 9223372036854775807) :
    CallsS Tryz.prog w0 65 [p.val, q.val] As fun v Bs => v = .int .i64 (p.dot q) ∧ Bs = As := by
  obtain ⟨h1, h2, h3, h4, h5, h6⟩ := hp
  obtain ⟨k1, k2, k3, k4, k5, k6⟩ := hq
  have a1 := mul_in g0 g1 h1 h2 k1 k2
  have a2 := mul_in g0 g1 h3 h4 k3 k4
  have a3 := mul_in g0 g1 h5 h6 k5 k6
  refine CallsS.of_tri Tryz.func65 rfl Tryz.ntmps65 rfl ?_
  (repeat' (first | (show TL _ _ _ _ (_ :: _) _ _ _; first | refine TL.sa ?_ | (refine TL.na ?_; intro _)) | (first | refine Stp.h ?_ | refine Post.then_normal ?_ | refine Post.next ?_ | refine Post.block_other rfl ?_) | refine Tri.ca ?_))
  (refine Post.ra ?_)
  exact ⟨_, ⟨rfl, rfl⟩, by (exact Ents.au)⟩
set_option maxHeartbeats 1000000 in
theorem volume6R_ok [RdIn As fv V3 cV3 fcs] [RdIn As pv V3 cV3 pts] :
    CallsS Tryz.prog w0 38 [.agg #[pv, fv]] As fun v Bs => v = (if okM pts fcs then .tuple #[.string ⟨(textI (volM pts fcs)).toArray⟩, .int .i64 0] else .tuple #[.string ⟨#[]⟩, .int .i64 350]) ∧ Bs = As := by
  refine CallsS.of_tri Tryz.func38 rfl Tryz.ntmps38 rfl ?_
  (repeat' (first | (show TL _ _ _ _ (_ :: _) _ _ _; first | refine TL.sa ?_ | (refine TL.na ?_; intro _)) | (first | refine Stp.h ?_ | refine Post.then_normal ?_ | refine Post.next ?_ | refine Post.block_other rfl ?_) | refine Tri.ca ?_))
  refine TL.call rfl rfl rfl checkR_ok ?_
  rintro _ _ ⟨rfl, rfl⟩
  (repeat' (first | (show TL _ _ _ _ (_ :: _) _ _ _; first | refine TL.sa ?_ | (refine TL.na ?_; intro _)) | (first | refine Stp.h ?_ | refine Post.then_normal ?_ | refine Post.next ?_ | refine Post.block_other rfl ?_) | refine Tri.ca ?_))
  ((show Tri _ _ _ (.cond _ _ _) _ _ _; first | refine Tri.condP rfl (fun hc => ?_) (fun hc => ?_) | refine Tri.condN rfl (fun hc => ?_) (fun hc => ?_)))
  · obtain ⟨h1, h2⟩ := chk_no hc
    rw [h2]
    (repeat' (first | (show TL _ _ _ _ (_ :: _) _ _ _; first | refine TL.sa ?_ | (refine TL.na ?_; intro _)) | (first | refine Stp.h ?_ | refine Post.then_normal ?_ | refine Post.next ?_ | refine Post.block_other rfl ?_) | refine Tri.ca ?_))
    (refine Post.ra ?_)
    exact ⟨_, ⟨by rw [if_neg h1], rfl⟩, by (exact Ents.au)⟩
  · have hk := chk_ok hc
    have hg := okM_good.1 hk
    have hfar := far_none hg.far
    have hw := wrong_none hg.wrong
    have hlf := hg.f600
    have hlp := hg.p300
    (repeat' (first | (show TL _ _ _ _ (_ :: _) _ _ _; first | refine TL.sa ?_ | (refine TL.na ?_; intro _)) | (first | refine Stp.h ?_ | refine Post.then_normal ?_ | refine Post.next ?_ | refine Post.block_other rfl ?_) | refine Tri.ca ?_))
    refine TL.call rfl rfl rfl (ofR_ok (n := 0) (by decide) (by decide)) ?_
    rintro _ _ ⟨rfl, rfl⟩
    (repeat' (first | (show TL _ _ _ _ (_ :: _) _ _ _; first | refine TL.sa ?_ | (refine TL.na ?_; intro _)) | (first | refine Stp.h ?_ | refine Post.then_normal ?_ | refine Post.next ?_ | refine Post.block_other rfl ?_) | refine Tri.ca ?_))
    rename_i b1
    refine Tri.loop (ι := Nat) (fun k => k ≤ fcs.length) (fun k => fcs.length - k)
      (fun k => [(1, .pointer (some ⟨b1, 0, none⟩)), (5, .string ⟨(textI (volM pts (fcs.take k))).toArray⟩), (6, .int .i64 k)]) (fun _ => .cl b1 [pv, fv] 36 :: As) 0 (by omega) (by (exact Sub.au)) (by (exact Ents.au)) ?_
    intro k hkl
    (repeat' (first | (show TL _ _ _ _ (_ :: _) _ _ _; first | refine TL.sa ?_ | (refine TL.na ?_; intro _)) | (first | refine Stp.h ?_ | refine Post.then_normal ?_ | refine Post.next ?_ | refine Post.block_other rfl ?_) | refine Tri.ca ?_))
    ((show Tri _ _ _ (.cond _ _ _) _ _ _; first | refine Tri.condP rfl (fun hc => ?_) (fun hc => ?_) | refine Tri.condN rfl (fun hc => ?_) (fun hc => ?_)))
    · obtain ⟨f, hp⟩ : ∃ p, fcs[k]? = some p := ⟨_, List.getElem?_eq_getElem (by omega)⟩
      have hv := hw f (List.mem_of_getElem? hp)
      have hvk := volTake_in hfar fcs k
      have hfv := faceV_in hfar f
      have hstep : volM pts (fcs.take (k + 1)) = volM pts (fcs.take k) + faceV pts f := by
        unfold volM; rw [take_succ_foldl hp]
      generalize volM pts (fcs.take k) = tk at hvk hstep ⊢
      simp only [isWrong, Bool.or_eq_false_iff, decide_eq_false_iff_not] at hv
      obtain ⟨i, hi⟩ : ∃ i : Nat, f.x = (i : Int) := ⟨f.x.toNat, by omega⟩
      obtain ⟨j, hj⟩ : ∃ i : Nat, f.y = (i : Int) := ⟨f.y.toNat, by omega⟩
      obtain ⟨l, hl'⟩ : ∃ i : Nat, f.z = (i : Int) := ⟨f.z.toNat, by omega⟩
      obtain ⟨fx, fy, fz⟩ := f
      simp only at hi hj hl' hv
      subst hi hj hl'
      obtain ⟨p, ep⟩ : ∃ p, pts[i]? = some p := ⟨_, List.getElem?_eq_getElem (by omega)⟩
      obtain ⟨q, eq⟩ : ∃ p, pts[j]? = some p := ⟨_, List.getElem?_eq_getElem (by omega)⟩
      obtain ⟨r, er⟩ : ∃ p, pts[l]? = some p := ⟨_, List.getElem?_eq_getElem (by omega)⟩
      have hn : faceV pts ⟨(i : Int), (j : Int), (l : Int)⟩ = p.dot (q.cross r) := by simp [faceV, ptAt, ep, eq, er]
      rw [hn] at hfv hstep
      have hp' := hfar p (List.mem_of_getElem? ep)
      have hq' := hfar q (List.mem_of_getElem? eq)
      have hr' := hfar r (List.mem_of_getElem? er)
      have hd1 : Lib.nDigits tk.natAbs ≤ 600 := nDigits_600 (by omega) (by omega)
      have hd2 : Lib.nDigits (p.dot (q.cross r)).natAbs ≤ 600 := nDigits_600 (by omega) (by omega)
      have hd3 : Lib.nDigits (tk + p.dot (q.cross r)).natAbs ≤ 600 := nDigits_600 (by omega) (by omega)
      have hl1 := text_len hd1
      have hl2 := text_len hd2
      (repeat' (first | (show TL _ _ _ _ (_ :: _) _ _ _; first | refine TL.sa ?_ | (refine TL.na ?_; intro _)) | (first | refine Stp.h ?_ | refine Post.then_normal ?_ | refine Post.next ?_ | refine Post.block_other rfl ?_) | refine Tri.ca ?_))
      refine Tri.dr (.take 0 (.take 1 (.take 2 (.take 3 (.take 4 (.take 5 (.take 6 (.take 7 (.take 8 (.take 9 (.take 10 (.take 11 (.take 12 (.take 13 (.take 14 (.take 15 (.take 16 (.take 17 (.all [(18, .all [(19, .take 20 (.done))])]))))))))))))))))))) ?_
      (repeat' (first | (show TL _ _ _ _ (_ :: _) _ _ _; first | refine TL.sa ?_ | (refine TL.na ?_; intro _)) | (first | refine Stp.h ?_ | refine Post.then_normal ?_ | refine Post.next ?_ | refine Post.block_other rfl ?_) | (show TT _ _ _ _ _ _ _ _ _; refine TT.sa ?_) | exact TTs.nil | refine TTs.cons ?_ ?_ | (show T1 _ _ _ _ _ _ _ _ _ _; first | refine T1.sa ?_ | (refine T1.na ?_; intro _)) | (show TC _ _ _ _ _ _ _ _ _ _; first | refine TC.goa ?_ | refine TC.fina ?_) | refine Tri.ca ?_))
      refine T1.call rfl rfl rfl rfl (crossR_ok hq' hr' (by decide) (by decide) (by decide)) ?_
      rintro _ _ ⟨rfl, rfl⟩
      (repeat' (first | (show TL _ _ _ _ (_ :: _) _ _ _; first | refine TL.sa ?_ | (refine TL.na ?_; intro _)) | (first | refine Stp.h ?_ | refine Post.then_normal ?_ | refine Post.next ?_ | refine Post.block_other rfl ?_) | (show TT _ _ _ _ _ _ _ _ _; refine TT.sa ?_) | exact TTs.nil | refine TTs.cons ?_ ?_ | (show T1 _ _ _ _ _ _ _ _ _ _; first | refine T1.sa ?_ | (refine T1.na ?_; intro _)) | (show TC _ _ _ _ _ _ _ _ _ _; first | refine TC.goa ?_ | refine TC.fina ?_) | refine Tri.ca ?_))
      refine T1.call rfl rfl rfl rfl (dotR_ok hp' (cross_in (by decide) (by decide) hq' hr') (by decide) (by decide) (by decide)) ?_
      rintro _ _ ⟨rfl, rfl⟩
      (repeat' (first | (show TL _ _ _ _ (_ :: _) _ _ _; first | refine TL.sa ?_ | (refine TL.na ?_; intro _)) | (first | refine Stp.h ?_ | refine Post.then_normal ?_ | refine Post.next ?_ | refine Post.block_other rfl ?_) | (show TT _ _ _ _ _ _ _ _ _; refine TT.sa ?_) | exact TTs.nil | refine TTs.cons ?_ ?_ | (show T1 _ _ _ _ _ _ _ _ _ _; first | refine T1.sa ?_ | (refine T1.na ?_; intro _)) | (show TC _ _ _ _ _ _ _ _ _ _; first | refine TC.goa ?_ | refine TC.fina ?_) | refine Tri.ca ?_))
      refine TL.call rfl rfl rfl (ofR_ok (by omega) (by omega)) ?_
      rintro _ _ ⟨rfl, rfl⟩
      (repeat' (first | (show TL _ _ _ _ (_ :: _) _ _ _; first | refine TL.sa ?_ | (refine TL.na ?_; intro _)) | (first | refine Stp.h ?_ | refine Post.then_normal ?_ | refine Post.next ?_ | refine Post.block_other rfl ?_) | (show TT _ _ _ _ _ _ _ _ _; refine TT.sa ?_) | exact TTs.nil | refine TTs.cons ?_ ?_ | (show T1 _ _ _ _ _ _ _ _ _ _; first | refine T1.sa ?_ | (refine T1.na ?_; intro _)) | (show TC _ _ _ _ _ _ _ _ _ _; first | refine TC.goa ?_ | refine TC.fina ?_) | refine Tri.ca ?_))
      refine TL.call rfl rfl rfl (addR_ok (by omega) (by omega)) ?_
      rintro _ _ ⟨rfl, rfl⟩
      rw [addW_text hd1 hd2 hd3]
      (repeat' (first | (show TL _ _ _ _ (_ :: _) _ _ _; first | refine TL.sa ?_ | (refine TL.na ?_; intro _)) | (first | refine Stp.h ?_ | refine Post.then_normal ?_ | refine Post.next ?_ | refine Post.block_other rfl ?_) | (show TT _ _ _ _ _ _ _ _ _; refine TT.sa ?_) | exact TTs.nil | refine TTs.cons ?_ ?_ | (show T1 _ _ _ _ _ _ _ _ _ _; first | refine T1.sa ?_ | (refine T1.na ?_; intro _)) | (show TC _ _ _ _ _ _ _ _ _ _; first | refine TC.goa ?_ | refine TC.fina ?_) | refine Tri.ca ?_))
      refine Post.round (k + 1) (by omega) (by omega) ?_ (by (exact Ents.au))
      rw [hstep]
      (exact Sub.au)
    · (repeat' (first | (show TL _ _ _ _ (_ :: _) _ _ _; first | refine TL.sa ?_ | (refine TL.na ?_; intro _)) | (first | refine Stp.h ?_ | refine Post.then_normal ?_ | refine Post.next ?_ | refine Post.block_other rfl ?_) | (show TT _ _ _ _ _ _ _ _ _; refine TT.sa ?_) | exact TTs.nil | refine TTs.cons ?_ ?_ | (show T1 _ _ _ _ _ _ _ _ _ _; first | refine T1.sa ?_ | (refine T1.na ?_; intro _)) | (show TC _ _ _ _ _ _ _ _ _ _; first | refine TC.goa ?_ | refine TC.fina ?_) | refine Tri.ca ?_))
      (refine Post.ra ?_)
      have hk' : k = fcs.length := by omega
      subst hk'
      rw [List.take_length]
      exact ⟨_, ⟨by rw [if_pos hk], rfl⟩, by (exact Ents.au)⟩
end Go.Proofs.YtjpghlljcibcjaaGreatDoor
