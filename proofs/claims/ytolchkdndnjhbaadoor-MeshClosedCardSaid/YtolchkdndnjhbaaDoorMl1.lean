/- Walks: the law's own small functions. -/
import Derived.Test.YtolchkdndnjhbaaDoorMb2
import Derived.Test.YtolchkdndnjhbaaDoorPl
namespace Go.Proofs.YtolchkdndnjhbaaDoor
open Go Go.Sx
variable {w0 : World} {As : List Ent} {pv fv : Value} {pts fcs : List V3}
theorem tetra_ok : CallsS Tryd.prog w0 20 [] As fun v Bs => ∃ b1 b2, v = .agg #[.slice (some ⟨b1, 0, none⟩) 4 4, .slice (some ⟨b2, 0, none⟩) 4 4] ∧
    Bs = .ow cV3 33 (.slice (some ⟨b1, 0, none⟩) 4 4) tetP :: .ow cV3 33 (.slice (some ⟨b2, 0, none⟩) 4 4) tetF :: As := by
  refine CallsS.of_tri Tryd.func20 rfl Tryd.ntmps20 rfl ?_
  (repeat' (first | ((show TL _ _ _ _ (_ :: _) _ _ _; first | refine TL.fa ?_ | refine TL.ua ?_ | (refine TL.rba ?_; intro _) | (refine TL.rra ?_; first | rintro _ _ ⟨rfl, rfl⟩ | rintro _ _ rfl) | refine TL.offa ?_ | refine TL.off0a ?_ | refine TL.gu ?_ | fail)) | (first | refine Stp.h ?_ | refine Post.then_normal ?_ | refine Post.next ?_ | refine Post.block_other rfl ?_) | ((show Tri _ _ _ (.cond _ _ _) _ _ _; first | refine Tri.cTa ?_ | refine Tri.cFa ?_ | refine Tri.condTa ?_ | refine Tri.condFa ?_ | refine Tri.condNTa ?_ | refine Tri.condNFa ?_ | fail))))
  rename_i b0 b1 b2
  ((try refine Post.ret_normal ?_); first | refine Post.r1a ?_ | refine Post.r2a ?_ | refine Post.r3a ?_ | refine Post.r0a ?_ | fail)
  refine ⟨_, ⟨b1, b2, rfl, rfl⟩, ?_⟩
  refine Ents.trans Ents.drop1 ?_
  refine Ents.trans (Ents.clW (n := 4) (cap := 4) cV3 tetF rfl rfl rfl) ?_
  refine Ents.trans (Ents.perm (List.Perm.swap _ _ _)) ?_
  refine Ents.trans (Ents.clW (n := 4) (cap := 4) cV3 tetP rfl rfl rfl) ?_
  (exact Ents.au)
theorem flawed_ok (ht : Tab w0) {kind at_ : Int} [RdIn As fv V3 cV3 fcs] [RdIn As pv V3 cV3 pts] :
    CallsS Tryd.prog w0 21 [.agg #[pv, fv], .int .i64 kind, .int .i64 at_] As fun u Bs => u = .bool (decide (((flawM pts fcs).1 : Int) = kind ∧ ((flawM pts fcs).2 : Int) = at_)) ∧ Bs = As := by
  refine CallsS.of_tri Tryd.func21 rfl Tryd.ntmps21 rfl ?_
  (repeat' (first | ((show TL _ _ _ _ (_ :: _) _ _ _; first | refine TL.fa ?_ | refine TL.ua ?_ | (refine TL.rba ?_; intro _) | (refine TL.rra ?_; first | rintro _ _ ⟨rfl, rfl⟩ | rintro _ _ rfl) | refine TL.offa ?_ | refine TL.off0a ?_ | refine TL.gu ?_ | fail)) | (first | refine Stp.h ?_ | refine Post.then_normal ?_ | refine Post.next ?_ | refine Post.block_other rfl ?_) | ((show Tri _ _ _ (.cond _ _ _) _ _ _; first | refine Tri.cTa ?_ | refine Tri.cFa ?_ | refine Tri.condTa ?_ | refine Tri.condFa ?_ | refine Tri.condNTa ?_ | refine Tri.condNFa ?_ | fail))))
  refine TL.call rfl rfl rfl flaw_ok ?_
  rintro _ _ ⟨rfl, rfl⟩
  (repeat' (first | ((show TL _ _ _ _ (_ :: _) _ _ _; first | refine TL.fa ?_ | refine TL.ua ?_ | (refine TL.rba ?_; intro _) | (refine TL.rra ?_; first | rintro _ _ ⟨rfl, rfl⟩ | rintro _ _ rfl) | refine TL.offa ?_ | refine TL.off0a ?_ | refine TL.gu ?_ | fail)) | (first | refine Stp.h ?_ | refine Post.then_normal ?_ | refine Post.next ?_ | refine Post.block_other rfl ?_) | ((show Tri _ _ _ (.cond _ _ _) _ _ _; first | refine Tri.cTa ?_ | refine Tri.cFa ?_ | refine Tri.condTa ?_ | refine Tri.condFa ?_ | refine Tri.condNTa ?_ | refine Tri.condNFa ?_ | fail))))
  refine TL.call rfl rfl rfl (volume6_ok ht) ?_
  rintro _ _ ⟨rfl, rfl⟩
  by_cases hk : okM pts fcs
  · rw [if_pos hk]
    have hk' : (flawM pts fcs).1 = 0 := hk
    (repeat' (first | ((show TL _ _ _ _ (_ :: _) _ _ _; first | refine TL.fa ?_ | refine TL.ua ?_ | (refine TL.rba ?_; intro _) | (refine TL.rra ?_; first | rintro _ _ ⟨rfl, rfl⟩ | rintro _ _ rfl) | refine TL.offa ?_ | refine TL.off0a ?_ | refine TL.gu ?_ | fail)) | (first | refine Stp.h ?_ | refine Post.then_normal ?_ | refine Post.next ?_ | refine Post.block_other rfl ?_) | ((show Tri _ _ _ (.cond _ _ _) _ _ _; first | refine Tri.cTa ?_ | refine Tri.cFa ?_ | refine Tri.condTa ?_ | refine Tri.condFa ?_ | refine Tri.condNTa ?_ | refine Tri.condNFa ?_ | fail)) | (first | refine TL.gsplit rfl rfl (fun hgs => ?_) (fun hgs => ?_) | refine TL.gsplitN rfl rfl (fun hgs => ?_) (fun hgs => ?_) | refine TT.gsplit rfl rfl rfl (fun hgs => ?_) (fun hgs => ?_) | refine TT.gsplitN rfl rfl rfl (fun hgs => ?_) (fun hgs => ?_)) | ((show Tri _ _ _ (.cond _ _ _) _ _ _; first | refine Tri.condP rfl (fun hc => ?_) (fun hc => ?_) | refine Tri.condN rfl (fun hc => ?_) (fun hc => ?_)))))
    all_goals
      ((try refine Post.ret_normal ?_); first | refine Post.r1a ?_ | refine Post.r2a ?_ | refine Post.r3a ?_ | refine Post.r0a ?_ | fail)
      refine ⟨_, ⟨?_, rfl⟩, by (exact Ents.au)⟩
      first
        | (rw [decide_eq_false (by omega)]; done)
        | (congr 1; rw [Bool.eq_iff_iff]; simp only [decide_eq_true_eq]; constructor <;> intro h <;> simp at * <;> omega)
  · rw [if_neg hk]
    have hk' : (flawM pts fcs).1 ≠ 0 := hk
    (repeat' (first | ((show TL _ _ _ _ (_ :: _) _ _ _; first | refine TL.fa ?_ | refine TL.ua ?_ | (refine TL.rba ?_; intro _) | (refine TL.rra ?_; first | rintro _ _ ⟨rfl, rfl⟩ | rintro _ _ rfl) | refine TL.offa ?_ | refine TL.off0a ?_ | refine TL.gu ?_ | fail)) | (first | refine Stp.h ?_ | refine Post.then_normal ?_ | refine Post.next ?_ | refine Post.block_other rfl ?_) | (first | (show TT _ _ _ _ _ _ _ _ _; first | refine TT.takea ?_ | refine TT.takeMa ?_ | refine TT.takeOffa ?_ | refine TT.gu ?_ | fail) | exact TTs.nil | refine TTs.cons ?_ ?_ | (show T1 _ _ _ _ _ _ _ _ _ _; first | refine T1.ua ?_ | (refine T1.rba ?_; intro _) | (refine T1.rra ?_; first | rintro _ _ ⟨rfl, rfl⟩ | rintro _ _ rfl) | refine T1.fa ?_ | refine T1.offa ?_ | refine T1.off0a ?_ | fail) | (show TC _ _ _ _ _ _ _ _ _ _; first | refine TC.goa ?_ | refine TC.fina ?_ | fail)) | ((show Tri _ _ _ (.cond _ _ _) _ _ _; first | refine Tri.cTa ?_ | refine Tri.cFa ?_ | refine Tri.condTa ?_ | refine Tri.condFa ?_ | refine Tri.condNTa ?_ | refine Tri.condNFa ?_ | fail)) | (first | refine TL.gsplit rfl rfl (fun hgs => ?_) (fun hgs => ?_) | refine TL.gsplitN rfl rfl (fun hgs => ?_) (fun hgs => ?_) | refine TT.gsplit rfl rfl rfl (fun hgs => ?_) (fun hgs => ?_) | refine TT.gsplitN rfl rfl rfl (fun hgs => ?_) (fun hgs => ?_)) | ((show Tri _ _ _ (.cond _ _ _) _ _ _; first | refine Tri.condP rfl (fun hc => ?_) (fun hc => ?_) | refine Tri.condN rfl (fun hc => ?_) (fun hc => ?_)))))
    all_goals
      ((try refine Post.ret_normal ?_); first | refine Post.r1a ?_ | refine Post.r2a ?_ | refine Post.r3a ?_ | refine Post.r0a ?_ | fail)
      refine ⟨_, ⟨?_, rfl⟩, by (exact Ents.au)⟩
      first
        | (rw [decide_eq_false (by omega)]; done)
        | (congr 1; rw [Bool.eq_iff_iff]; simp only [decide_eq_true_eq]; constructor <;> intro h <;> simp at * <;> omega)
theorem minusL_ok {p q : V3} {m n : Int} (hp : p.in m) (hq : q.in n) (hm : m + n ≤ 9223372036854775807) :
    CallsS Tryd.prog w0 18 [p.val, q.val] As fun v Bs => v = (p.sub q).val ∧ Bs = As := by
  obtain ⟨h1, h2, h3, h4, h5, h6⟩ := hp
  obtain ⟨k1, k2, k3, k4, k5, k6⟩ := hq
  refine CallsS.of_tri Tryd.func18 rfl Tryd.ntmps18 rfl ?_
  (repeat' (first | ((show TL _ _ _ _ (_ :: _) _ _ _; first | refine TL.fa ?_ | refine TL.ua ?_ | (refine TL.rba ?_; intro _) | (refine TL.rra ?_; first | rintro _ _ ⟨rfl, rfl⟩ | rintro _ _ rfl) | refine TL.offa ?_ | refine TL.off0a ?_ | refine TL.gu ?_ | fail)) | (first | refine Stp.h ?_ | refine Post.then_normal ?_ | refine Post.next ?_ | refine Post.block_other rfl ?_) | (first | (show TT _ _ _ _ _ _ _ _ _; first | refine TT.takea ?_ | refine TT.takeMa ?_ | refine TT.takeOffa ?_ | refine TT.gu ?_ | fail) | exact TTs.nil | refine TTs.cons ?_ ?_ | (show T1 _ _ _ _ _ _ _ _ _ _; first | refine T1.ua ?_ | (refine T1.rba ?_; intro _) | (refine T1.rra ?_; first | rintro _ _ ⟨rfl, rfl⟩ | rintro _ _ rfl) | refine T1.fa ?_ | refine T1.offa ?_ | refine T1.off0a ?_ | fail) | (show TC _ _ _ _ _ _ _ _ _ _; first | refine TC.goa ?_ | refine TC.fina ?_ | fail)) | ((show Tri _ _ _ (.cond _ _ _) _ _ _; first | refine Tri.cTa ?_ | refine Tri.cFa ?_ | refine Tri.condTa ?_ | refine Tri.condFa ?_ | refine Tri.condNTa ?_ | refine Tri.condNFa ?_ | fail))))
  ((try refine Post.ret_normal ?_); first | refine Post.r1a ?_ | refine Post.r2a ?_ | refine Post.r3a ?_ | refine Post.r0a ?_ | fail)
  exact ⟨_, ⟨rfl, rfl⟩, by (exact Ents.au)⟩
theorem crossL_ok {p q : V3} {m n : Int} (hp : p.in m) (hq : q.in n) (g0 : 0 ≤ m) (g1 : 0 ≤ n) (hm : 2 * (m * n) ≤ 9223372036854775807) :
    CallsS Tryd.prog w0 17 [p.val, q.val] As fun v Bs => v = (p.cross q).val ∧ Bs = As := by
  obtain ⟨h1, h2, h3, h4, h5, h6⟩ := hp
  obtain ⟨k1, k2, k3, k4, k5, k6⟩ := hq
  have a1 := mul_in g0 g1 h3 h4 k5 k6
  have a2 := mul_in g0 g1 h5 h6 k3 k4
  have a3 := mul_in g0 g1 h5 h6 k1 k2
  have a4 := mul_in g0 g1 h1 h2 k5 k6
  have a5 := mul_in g0 g1 h1 h2 k3 k4
  have a6 := mul_in g0 g1 h3 h4 k1 k2
  refine CallsS.of_tri Tryd.func17 rfl Tryd.ntmps17 rfl ?_
  (repeat' (first | ((show TL _ _ _ _ (_ :: _) _ _ _; first | refine TL.fa ?_ | refine TL.ua ?_ | (refine TL.rba ?_; intro _) | (refine TL.rra ?_; first | rintro _ _ ⟨rfl, rfl⟩ | rintro _ _ rfl) | refine TL.offa ?_ | refine TL.off0a ?_ | refine TL.gu ?_ | fail)) | (first | refine Stp.h ?_ | refine Post.then_normal ?_ | refine Post.next ?_ | refine Post.block_other rfl ?_) | ((show Tri _ _ _ (.cond _ _ _) _ _ _; first | refine Tri.cTa ?_ | refine Tri.cFa ?_ | refine Tri.condTa ?_ | refine Tri.condFa ?_ | refine Tri.condNTa ?_ | refine Tri.condNFa ?_ | fail))))
  ((try refine Post.ret_normal ?_); first | refine Post.r1a ?_ | refine Post.r2a ?_ | refine Post.r3a ?_ | refine Post.r0a ?_ | fail)
  exact ⟨_, ⟨rfl, rfl⟩, by (exact Ents.au)⟩
theorem det_ok {a p q : V3} {l m n : Int} (ha : a.in l) (hp : p.in m) (hq : q.in n) (g : 0 ≤ l) (g0 : 0 ≤ m) (g1 : 0 ≤ n) (hm : 2 * (m * n) ≤ 9223372036854775807) (hl : 3 * (l * (2 * (m * n))) ≤ 9223372036854775807) :
    CallsS Tryd.prog w0 23 [a.val, p.val, q.val] As fun v Bs => v = .int .i64 (a.dot (p.cross q)) ∧ Bs = As := by
  have hmn := Int.mul_nonneg g0 g1
  obtain ⟨k1, k2, k3, k4, k5, k6⟩ := cross_in g0 g1 hp hq
  obtain ⟨h1, h2, h3, h4, h5, h6⟩ := ha
  have a1 := mul_in g (by omega) h1 h2 k1 k2
  have a2 := mul_in g (by omega) h3 h4 k3 k4
  have a3 := mul_in g (by omega) h5 h6 k5 k6
  refine CallsS.of_tri Tryd.func23 rfl Tryd.ntmps23 rfl ?_
  (repeat' (first | ((show TL _ _ _ _ (_ :: _) _ _ _; first | refine TL.fa ?_ | refine TL.ua ?_ | (refine TL.rba ?_; intro _) | (refine TL.rra ?_; first | rintro _ _ ⟨rfl, rfl⟩ | rintro _ _ rfl) | refine TL.offa ?_ | refine TL.off0a ?_ | refine TL.gu ?_ | fail)) | (first | refine Stp.h ?_ | refine Post.then_normal ?_ | refine Post.next ?_ | refine Post.block_other rfl ?_) | ((show Tri _ _ _ (.cond _ _ _) _ _ _; first | refine Tri.cTa ?_ | refine Tri.cFa ?_ | refine Tri.condTa ?_ | refine Tri.condFa ?_ | refine Tri.condNTa ?_ | refine Tri.condNFa ?_ | fail))))
  refine TL.call rfl rfl rfl (crossL_ok hp hq g0 g1 hm) ?_
  rintro _ _ ⟨rfl, rfl⟩
  (repeat' (first | ((show TL _ _ _ _ (_ :: _) _ _ _; first | refine TL.fa ?_ | refine TL.ua ?_ | (refine TL.rba ?_; intro _) | (refine TL.rra ?_; first | rintro _ _ ⟨rfl, rfl⟩ | rintro _ _ rfl) | refine TL.offa ?_ | refine TL.off0a ?_ | refine TL.gu ?_ | fail)) | (first | refine Stp.h ?_ | refine Post.then_normal ?_ | refine Post.next ?_ | refine Post.block_other rfl ?_) | ((show Tri _ _ _ (.cond _ _ _) _ _ _; first | refine Tri.cTa ?_ | refine Tri.cFa ?_ | refine Tri.condTa ?_ | refine Tri.condFa ?_ | refine Tri.condNTa ?_ | refine Tri.condNFa ?_ | fail))))
  ((try refine Post.ret_normal ?_); first | refine Post.r1a ?_ | refine Post.r2a ?_ | refine Post.r3a ?_ | refine Post.r0a ?_ | fail)
  exact ⟨_, ⟨rfl, rfl⟩, by (exact Ents.au)⟩
end Go.Proofs.YtolchkdndnjhbaaDoor
