/- Walks: ShellColors. -/
import Derived.Test.YtjpghlljcibcjaaGreatDoorLs0
import Derived.Test.YtjpghlljcibcjaaGreatDoorMr1
namespace Go.Sx
open Go
theorem nodesR_small {S : List Int} : (nodesR S).1.length ≤ 300 := by
  unfold nodesR
  split
  · split
    · split
      · simp
      · simp only; omega
    · simp
  · simp
theorem V3_self (x : V3) : (decide ((⟨x.x, x.y, x.z⟩ : V3) = ⟨x.x, x.y, x.z⟩)) = true := decide_eq_true rfl
end Go.Sx
namespace Go.Proofs.YtjpghlljcibcjaaGreatDoor
open Go Go.Sx
variable {w0 : World} {As : List Ent}
set_option maxRecDepth 100000 in
set_option maxHeartbeats 4000000 in
theorem shellColors_ok (ht : Tab w0) {rv : Value} {raw : List Int} {v0 v1 v2 s0 s1 s2 : Int} [hr : FtIn As rv Int (cI .i64) raw] (hv0 : 0 ≤ v0 ∧ v0 ≤ 65535) (hv1 : 0 ≤ v1 ∧ v1 ≤ 65535) (hv2 : 0 ≤ v2 ∧ v2 ≤ 65535)
    (hs0 : 0 ≤ s0 ∧ s0 ≤ 255) (hs1 : 0 ≤ s1 ∧ s1 ≤ 255) (hs2 : 0 ≤ s2 ∧ s2 ≤ 255) :
    CallsS Tryz.prog w0 3 [rv, .agg #[.int .u16 v0, .int .u16 v1, .int .u16 v2], .agg #[.int .u8 s0, .int .u8 s1, .int .u8 s2]] As fun u _ => u = .bool true := by
  refine CallsS.rdSl rv ?_
  rintro rp rc rfl
  refine CallsS.of_tri Tryz.func3 rfl Tryz.ntmps3 rfl ?_
  (repeat' (first | ((show TL _ _ _ _ (_ :: _) _ _ _; first | refine TL.fa ?_ | refine TL.ua ?_ | (refine TL.rba ?_; intro _) | (refine TL.rra ?_; first | rintro _ _ ⟨rfl, rfl⟩ | rintro _ _ rfl) | refine TL.offa ?_ | refine TL.off0a ?_ | refine TL.gu ?_ | fail)) | (first | refine Stp.h ?_ | refine Post.then_normal ?_ | refine Post.next ?_ | refine Post.block_other rfl ?_) | ((show Tri _ _ _ (.cond _ _ _) _ _ _; first | refine Tri.cTa ?_ | refine Tri.cFa ?_ | refine Tri.condTa ?_ | refine Tri.condFa ?_ | refine Tri.condNTa ?_ | refine Tri.condNFa ?_ | fail))))
  rename_i b4 b5
  have hmin : (if (5 : Int) < (raw.length : Int) then 5 else (raw.length : Int)) = ((min raw.length 5 : Nat) : Int) := by split <;> omega
  rw [hmin]
  have hk : min raw.length 5 ≤ raw.length := by omega
  have hk5 : min raw.length 5 ≤ 5 := by omega
  generalize hkk : min raw.length 5 = k5 at hk hk5 ⊢
  refine TL.f rfl rfl (ExF.slice0 (c := cI .i64) (xs := raw) rfl (evHi.so rfl) hk) ?_
  refine TL.ents (Ents.trans (Ents.of_cov (Bs := .cl b5 [.int .u8 s0, .int .u8 s1, .int .u8 s2] 25 :: .cl b4 [.int .u16 v0, .int .u16 v1, .int .u16 v2] 24 :: As) inferInstance) (Ents.ftTake (p := rp) (m := raw.length) (cap := rc) (c := cI .i64) (xs := raw) hk)) ?_
  have hl0 : (raw.take k5).length ≤ 5 := by rw [List.length_take]; omega
  generalize raw.take k5 = X0 at hl0 ⊢
  (repeat' (first | ((show TL _ _ _ _ (_ :: _) _ _ _; first | refine TL.fa ?_ | refine TL.ua ?_ | (refine TL.rba ?_; intro _) | (refine TL.rra ?_; first | rintro _ _ ⟨rfl, rfl⟩ | rintro _ _ rfl) | refine TL.offa ?_ | refine TL.off0a ?_ | refine TL.gu ?_ | fail)) | (first | refine Stp.h ?_ | refine Post.then_normal ?_ | refine Post.next ?_ | refine Post.block_other rfl ?_) | ((show Tri _ _ _ (.cond _ _ _) _ _ _; first | refine Tri.cTa ?_ | refine Tri.cFa ?_ | refine Tri.condTa ?_ | refine Tri.condFa ?_ | refine Tri.condNTa ?_ | refine Tri.condNFa ?_ | fail))))
  rename_i b7 b8
  refine TL.ents (Ents.clW (cI .i64) [s0 % 11, s1 % 11, s2 % 11] rfl (n := 3) (cap := 3) rfl rfl) ?_
  refine TL.ents (Ents.trans (Ents.perm (List.Perm.swap _ _ _)) (Ents.clW (cI .i64) [v0, v1, v2] rfl (n := 3) (cap := 3) rfl rfl)) ?_
  have hl1 : ([v0, v1, v2] : List Int).length = 3 := rfl
  have hl2 : ([s0 % 11, s1 % 11, s2 % 11] : List Int).length = 3 := rfl
  generalize [v0, v1, v2] = X1 at hl1 ⊢
  generalize [s0 % 11, s1 % 11, s2 % 11] = X2 at hl2 ⊢
  refine TL.f rfl rfl (ExF.slice0 (c := cI .i64) (xs := X1) rfl (evHi.so rfl) (by show (2 : Nat) ≤ _; omega)) ?_
  (repeat' (first | ((show TL _ _ _ _ (_ :: _) _ _ _; first | refine TL.fa ?_ | refine TL.ua ?_ | (refine TL.rba ?_; intro _) | (refine TL.rra ?_; first | rintro _ _ ⟨rfl, rfl⟩ | rintro _ _ rfl) | refine TL.offa ?_ | refine TL.off0a ?_ | refine TL.gu ?_ | fail)) | (first | refine Stp.h ?_ | refine Post.then_normal ?_ | refine Post.next ?_ | refine Post.block_other rfl ?_) | ((show Tri _ _ _ (.cond _ _ _) _ _ _; first | refine Tri.cTa ?_ | refine Tri.cFa ?_ | refine Tri.condTa ?_ | refine Tri.condFa ?_ | refine Tri.condNTa ?_ | refine Tri.condNFa ?_ | fail))))
  generalize hE : (Ent.ow (cI .i64) 3 (.slice (some ⟨b7, 0, none⟩) 3 3) X1 :: _) = E
  haveI r0 : RdIn E (.slice rp k5 rc) Int (cI .i64) X0 := by rw [← hE]; infer_instance
  haveI r1 : RdIn E (.slice (some ⟨b7, 0, none⟩) 3 3) Int (cI .i64) X1 := by rw [← hE]; infer_instance
  haveI r2 : RdIn E (.slice (some ⟨b8, 0, none⟩) 3 3) Int (cI .i64) X2 := by rw [← hE]; infer_instance
  haveI r3 : RdIn E (.slice (some ⟨b7, 0, none⟩) 2 3) Int (cI .i64) (X1.take 2) := RdIn.take (m := 3) (by omega)
  clear hE
  refine Tri.loop (ι := Nat) (fun k => k ≤ 4) (fun k => 4 - k) (fun k => [(52, .agg #[.slice rp k5 rc, .slice (some ⟨b7, 0, none⟩) 3 3, .slice (some ⟨b8, 0, none⟩) 3 3, .slice (some ⟨b7, 0, none⟩) 2 3]), (53, .int .i64 k)]) (fun _ => E) 0 (by omega) (by (exact Sub.au)) (by (exact Ents.au)) ?_
  intro k hk
  (repeat' (first | ((show TL _ _ _ _ (_ :: _) _ _ _; first | refine TL.fa ?_ | refine TL.ua ?_ | (refine TL.rba ?_; intro _) | (refine TL.rra ?_; first | rintro _ _ ⟨rfl, rfl⟩ | rintro _ _ rfl) | refine TL.offa ?_ | refine TL.off0a ?_ | refine TL.gu ?_ | fail)) | (first | refine Stp.h ?_ | refine Post.then_normal ?_ | refine Post.next ?_ | refine Post.block_other rfl ?_) | ((show Tri _ _ _ (.cond _ _ _) _ _ _; first | refine Tri.cTa ?_ | refine Tri.cFa ?_ | refine Tri.condTa ?_ | refine Tri.condFa ?_ | refine Tri.condNTa ?_ | refine Tri.condNFa ?_ | fail))))
  ((show Tri _ _ _ (.cond _ _ _) _ _ _; first | refine Tri.condP rfl (fun hc => ?_) (fun hc => ?_) | refine Tri.condN rfl (fun hc => ?_) (fun hc => ?_)))
  · obtain ⟨x, X, hx, rx, hX⟩ : ∃ x X, ([.slice rp k5 rc, .slice (some ⟨b7, 0, none⟩) 3 3, .slice (some ⟨b8, 0, none⟩) 3 3, .slice (some ⟨b7, 0, none⟩) 2 3] : List Value)[k]? = some x ∧ RdIn E x Int (cI .i64) X ∧ X.length ≤ 5 := by
      rcases (by omega : k = 0 ∨ k = 1 ∨ k = 2 ∨ k = 3) with rfl | rfl | rfl | rfl
      · exact ⟨_, X0, rfl, r0, hl0⟩
      · exact ⟨_, X1, rfl, r1, by omega⟩
      · exact ⟨_, X2, rfl, r2, by omega⟩
      · exact ⟨_, X1.take 2, rfl, r3, by rw [List.length_take]; omega⟩
    have hk4 : Nat.blt k 4 = true := by rw [Nat.blt_eq]; omega
    clear r0 r1 r2 r3
    (repeat' (first | ((show TL _ _ _ _ (_ :: _) _ _ _; first | refine TL.fa ?_ | refine TL.ua ?_ | (refine TL.rba ?_; intro _) | (refine TL.rra ?_; first | rintro _ _ ⟨rfl, rfl⟩ | rintro _ _ rfl) | refine TL.offa ?_ | refine TL.off0a ?_ | refine TL.gu ?_ | fail)) | (first | refine Stp.h ?_ | refine Post.then_normal ?_ | refine Post.next ?_ | refine Post.block_other rfl ?_) | ((show Tri _ _ _ (.cond _ _ _) _ _ _; first | refine Tri.cTa ?_ | refine Tri.cFa ?_ | refine Tri.condTa ?_ | refine Tri.condFa ?_ | refine Tri.condNTa ?_ | refine Tri.condNFa ?_ | fail))))
    refine TL.f rfl rfl (ExF.idxArr rfl rfl rfl hk4 hx) ?_
    obtain ⟨a, b, c, e, hcr⟩ : ∃ a b c e, colorR X = (⟨a, b, c⟩, e) := ⟨_, _, _, _, rfl⟩
    obtain ⟨L, f, hnr⟩ : ∃ L f, nodesR X = (L, f) := ⟨_, _, rfl⟩
    have hL : L.length ≤ 300 := by
      have := nodesR_small (S := X)
      rw [hnr] at this
      exact this
    (repeat' (first | ((show TL _ _ _ _ (_ :: _) _ _ _; first | refine TL.fa ?_ | refine TL.ua ?_ | (refine TL.rba ?_; intro _) | (refine TL.rra ?_; first | rintro _ _ ⟨rfl, rfl⟩ | rintro _ _ rfl) | refine TL.offa ?_ | refine TL.off0a ?_ | refine TL.gu ?_ | fail)) | (first | refine Stp.h ?_ | refine Post.then_normal ?_ | refine Post.next ?_ | refine Post.block_other rfl ?_) | ((show Tri _ _ _ (.cond _ _ _) _ _ _; first | refine Tri.cTa ?_ | refine Tri.cFa ?_ | refine Tri.condTa ?_ | refine Tri.condFa ?_ | refine Tri.condNTa ?_ | refine Tri.condNFa ?_ | fail))))
    refine TL.call rfl rfl rfl (color_ok (xs := X) (by omega)) ?_
    rintro _ _ ⟨rfl, rfl⟩
    rw [hcr]
    show TL _ _ _ _ _ ((58, .tuple #[.agg #[.int .i64 a, .int .i64 b, .int .i64 c], .int .i64 e]) :: _) _ _
    (repeat' (first | ((show TL _ _ _ _ (_ :: _) _ _ _; first | refine TL.fa ?_ | refine TL.ua ?_ | (refine TL.rba ?_; intro _) | (refine TL.rra ?_; first | rintro _ _ ⟨rfl, rfl⟩ | rintro _ _ rfl) | refine TL.offa ?_ | refine TL.off0a ?_ | refine TL.gu ?_ | fail)) | (first | refine Stp.h ?_ | refine Post.then_normal ?_ | refine Post.next ?_ | refine Post.block_other rfl ?_) | ((show Tri _ _ _ (.cond _ _ _) _ _ _; first | refine Tri.cTa ?_ | refine Tri.cFa ?_ | refine Tri.condTa ?_ | refine Tri.condFa ?_ | refine Tri.condNTa ?_ | refine Tri.condNFa ?_ | fail))))
    refine TL.call rfl rfl rfl (colorRef_ok (xs := X) (by omega)) ?_
    rintro _ _ ⟨rfl, rfl⟩
    rw [hcr]
    show TL _ _ _ _ _ ((63, .tuple #[.agg #[.int .i64 a, .int .i64 b, .int .i64 c], .int .i64 e]) :: _) _ _
    (repeat' (first | ((show TL _ _ _ _ (_ :: _) _ _ _; first | refine TL.fa ?_ | refine TL.ua ?_ | (refine TL.rba ?_; intro _) | (refine TL.rra ?_; first | rintro _ _ ⟨rfl, rfl⟩ | rintro _ _ rfl) | refine TL.offa ?_ | refine TL.off0a ?_ | refine TL.gu ?_ | fail)) | (first | refine Stp.h ?_ | refine Post.then_normal ?_ | refine Post.next ?_ | refine Post.block_other rfl ?_) | ((show Tri _ _ _ (.cond _ _ _) _ _ _; first | refine Tri.cTa ?_ | refine Tri.cFa ?_ | refine Tri.condTa ?_ | refine Tri.condFa ?_ | refine Tri.condNTa ?_ | refine Tri.condNFa ?_ | fail))))
    refine TL.call rfl rfl rfl (nodes_ok (xs := X) (by omega)) ?_
    intro _ _ h
    rw [hnr] at h
    obtain ⟨q1, rfl, rfl⟩ := nodR_eq h
    refine TL.f rfl rfl (ExF.move rfl) ?_
    refine TL.f rfl rfl (show ExF _ _ _ _ _ _ _ q1 from ExF.extract rfl rfl) ?_
    (repeat' (first | ((show TL _ _ _ _ (_ :: _) _ _ _; first | refine TL.fa ?_ | refine TL.ua ?_ | (refine TL.rba ?_; intro _) | (refine TL.rra ?_; first | rintro _ _ ⟨rfl, rfl⟩ | rintro _ _ rfl) | refine TL.offa ?_ | refine TL.off0a ?_ | refine TL.gu ?_ | fail)) | (first | refine Stp.h ?_ | refine Post.then_normal ?_ | refine Post.next ?_ | refine Post.block_other rfl ?_) | ((show Tri _ _ _ (.cond _ _ _) _ _ _; first | refine Tri.cTa ?_ | refine Tri.cFa ?_ | refine Tri.condTa ?_ | refine Tri.condFa ?_ | refine Tri.condNTa ?_ | refine Tri.condNFa ?_ | fail))))
    refine TL.call rfl rfl rfl (nodesOf_ok (xs := X) (by omega)) ?_
    intro _ _ h
    rw [hnr] at h
    obtain ⟨q2, rfl, rfl⟩ := nodR_eq h
    refine TL.f rfl rfl (ExF.move rfl) ?_
    refine TL.f rfl rfl (show ExF _ _ _ _ _ _ _ q2 from ExF.extract rfl rfl) ?_
    (repeat' (first | ((show TL _ _ _ _ (_ :: _) _ _ _; first | refine TL.fa ?_ | refine TL.ua ?_ | (refine TL.rba ?_; intro _) | (refine TL.rra ?_; first | rintro _ _ ⟨rfl, rfl⟩ | rintro _ _ rfl) | refine TL.offa ?_ | refine TL.off0a ?_ | refine TL.gu ?_ | fail)) | (first | refine Stp.h ?_ | refine Post.then_normal ?_ | refine Post.next ?_ | refine Post.block_other rfl ?_) | ((show Tri _ _ _ (.cond _ _ _) _ _ _; first | refine Tri.cTa ?_ | refine Tri.cFa ?_ | refine Tri.condTa ?_ | refine Tri.condFa ?_ | refine Tri.condNTa ?_ | refine Tri.condNFa ?_ | fail))))
    refine TL.rdSl (c := cV3) (xs := L) q1 ?_
    rintro p1 c1 rfl
    refine TL.rdSl (c := cV3) (xs := L) q2 ?_
    rintro p2 c2 rfl
    rw [show (!decide ((⟨a, b, c⟩ : V3) = ⟨a, b, c⟩)) = false by simp]
    (repeat' (first | ((show TL _ _ _ _ (_ :: _) _ _ _; first | refine TL.fa ?_ | refine TL.ua ?_ | (refine TL.rba ?_; intro _) | (refine TL.rra ?_; first | rintro _ _ ⟨rfl, rfl⟩ | rintro _ _ rfl) | refine TL.offa ?_ | refine TL.off0a ?_ | refine TL.gu ?_ | fail)) | (first | refine Stp.h ?_ | refine Post.then_normal ?_ | refine Post.next ?_ | refine Post.block_other rfl ?_) | ((show Tri _ _ _ (.cond _ _ _) _ _ _; first | refine Tri.cTa ?_ | refine Tri.cFa ?_ | refine Tri.condTa ?_ | refine Tri.condFa ?_ | refine Tri.condNTa ?_ | refine Tri.condNFa ?_ | fail))))
    rw [show (!decide (e = e)) = false by simp]
    (repeat' (first | ((show TL _ _ _ _ (_ :: _) _ _ _; first | refine TL.fa ?_ | refine TL.ua ?_ | (refine TL.rba ?_; intro _) | (refine TL.rra ?_; first | rintro _ _ ⟨rfl, rfl⟩ | rintro _ _ rfl) | refine TL.offa ?_ | refine TL.off0a ?_ | refine TL.gu ?_ | fail)) | (first | refine Stp.h ?_ | refine Post.then_normal ?_ | refine Post.next ?_ | refine Post.block_other rfl ?_) | ((show Tri _ _ _ (.cond _ _ _) _ _ _; first | refine Tri.cTa ?_ | refine Tri.cFa ?_ | refine Tri.condTa ?_ | refine Tri.condFa ?_ | refine Tri.condNTa ?_ | refine Tri.condNFa ?_ | fail))))
    rw [show (!decide (f = f)) = false by simp]
    (repeat' (first | ((show TL _ _ _ _ (_ :: _) _ _ _; first | refine TL.fa ?_ | refine TL.ua ?_ | (refine TL.rba ?_; intro _) | (refine TL.rra ?_; first | rintro _ _ ⟨rfl, rfl⟩ | rintro _ _ rfl) | refine TL.offa ?_ | refine TL.off0a ?_ | refine TL.gu ?_ | fail)) | (first | refine Stp.h ?_ | refine Post.then_normal ?_ | refine Post.next ?_ | refine Post.block_other rfl ?_) | ((show Tri _ _ _ (.cond _ _ _) _ _ _; first | refine Tri.cTa ?_ | refine Tri.cFa ?_ | refine Tri.condTa ?_ | refine Tri.condFa ?_ | refine Tri.condNTa ?_ | refine Tri.condNFa ?_ | fail))))
    refine TL.f rfl rfl (ExF.build (vs := [.slice p1 L.length c1]) (l := [.slice p1 L.length c1, .slice none 0 0]) rfl (fun w => by kernel_rfl)) ?_
    (repeat' (first | ((show TL _ _ _ _ (_ :: _) _ _ _; first | refine TL.fa ?_ | refine TL.ua ?_ | (refine TL.rba ?_; intro _) | (refine TL.rra ?_; first | rintro _ _ ⟨rfl, rfl⟩ | rintro _ _ rfl) | refine TL.offa ?_ | refine TL.off0a ?_ | refine TL.gu ?_ | fail)) | (first | refine Stp.h ?_ | refine Post.then_normal ?_ | refine Post.next ?_ | refine Post.block_other rfl ?_) | ((show Tri _ _ _ (.cond _ _ _) _ _ _; first | refine Tri.cTa ?_ | refine Tri.cFa ?_ | refine Tri.condTa ?_ | refine Tri.condFa ?_ | refine Tri.condNTa ?_ | refine Tri.condNFa ?_ | fail))))
    refine TL.f rfl rfl (ExF.build (vs := [.slice p2 L.length c2]) (l := [.slice p2 L.length c2, .slice none 0 0]) rfl (fun w => by kernel_rfl)) ?_
    (repeat' (first | ((show TL _ _ _ _ (_ :: _) _ _ _; first | refine TL.fa ?_ | refine TL.ua ?_ | (refine TL.rba ?_; intro _) | (refine TL.rra ?_; first | rintro _ _ ⟨rfl, rfl⟩ | rintro _ _ rfl) | refine TL.offa ?_ | refine TL.off0a ?_ | refine TL.gu ?_ | fail)) | (first | refine Stp.h ?_ | refine Post.then_normal ?_ | refine Post.next ?_ | refine Post.block_other rfl ?_) | ((show Tri _ _ _ (.cond _ _ _) _ _ _; first | refine Tri.cTa ?_ | refine Tri.cFa ?_ | refine Tri.condTa ?_ | refine Tri.condFa ?_ | refine Tri.condNTa ?_ | refine Tri.condNFa ?_ | fail))))
    refine TL.ents (Ents.nilW (T := 27) cV3) ?_
    refine TL.call rfl rfl rfl (sameR_ok (pts := L) (pts' := L) (fcs := []) (fcs' := []) (by omega) (by decide)) ?_
    rintro _ _ ⟨rfl, rfl⟩
    rw [show (decide (L = L) && decide (([] : List V3) = [])) = true by simp]
    (repeat' (first | ((show TL _ _ _ _ (_ :: _) _ _ _; first | refine TL.fa ?_ | refine TL.ua ?_ | (refine TL.rba ?_; intro _) | (refine TL.rra ?_; first | rintro _ _ ⟨rfl, rfl⟩ | rintro _ _ rfl) | refine TL.offa ?_ | refine TL.off0a ?_ | refine TL.gu ?_ | fail)) | (first | refine Stp.h ?_ | refine Post.then_normal ?_ | refine Post.next ?_ | refine Post.block_other rfl ?_) | ((show Tri _ _ _ (.cond _ _ _) _ _ _; first | refine Tri.cTa ?_ | refine Tri.cFa ?_ | refine Tri.condTa ?_ | refine Tri.condFa ?_ | refine Tri.condNTa ?_ | refine Tri.condNFa ?_ | fail))))
    exact Post.round (k + 1) (by omega) (by omega) (by (exact Sub.au)) (by (exact Ents.au))
  · (repeat' (first | ((show TL _ _ _ _ (_ :: _) _ _ _; first | refine TL.fa ?_ | refine TL.ua ?_ | (refine TL.rba ?_; intro _) | (refine TL.rra ?_; first | rintro _ _ ⟨rfl, rfl⟩ | rintro _ _ rfl) | refine TL.offa ?_ | refine TL.off0a ?_ | refine TL.gu ?_ | fail)) | (first | refine Stp.h ?_ | refine Post.then_normal ?_ | refine Post.next ?_ | refine Post.block_other rfl ?_) | ((show Tri _ _ _ (.cond _ _ _) _ _ _; first | refine Tri.cTa ?_ | refine Tri.cFa ?_ | refine Tri.condTa ?_ | refine Tri.condFa ?_ | refine Tri.condNTa ?_ | refine Tri.condNFa ?_ | fail))))
    refine TL.call rfl rfl rfl (works_ok ht) ?_
    rintro _ _ ⟨rfl, rfl⟩
    (repeat' (first | ((show TL _ _ _ _ (_ :: _) _ _ _; first | refine TL.fa ?_ | refine TL.ua ?_ | (refine TL.rba ?_; intro _) | (refine TL.rra ?_; first | rintro _ _ ⟨rfl, rfl⟩ | rintro _ _ rfl) | refine TL.offa ?_ | refine TL.off0a ?_ | refine TL.gu ?_ | fail)) | (first | refine Stp.h ?_ | refine Post.then_normal ?_ | refine Post.next ?_ | refine Post.block_other rfl ?_) | ((show Tri _ _ _ (.cond _ _ _) _ _ _; first | refine Tri.cTa ?_ | refine Tri.cFa ?_ | refine Tri.condTa ?_ | refine Tri.condFa ?_ | refine Tri.condNTa ?_ | refine Tri.condNFa ?_ | fail))))
    ((try refine Post.ret_normal ?_); first | refine Post.r1a ?_ | refine Post.r2a ?_ | refine Post.r3a ?_ | refine Post.r0a ?_ | fail)
    exact ⟨[], rfl, Ents.of_cov inferInstance⟩
end Go.Proofs.YtjpghlljcibcjaaGreatDoor
