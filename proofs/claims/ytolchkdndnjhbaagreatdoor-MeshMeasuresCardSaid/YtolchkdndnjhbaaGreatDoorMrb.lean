/- Walks: MeshMeasures. -/
import Derived.Test.YtolchkdndnjhbaaGreatDoorMr7
import Derived.Test.YtolchkdndnjhbaaGreatDoorMra
namespace Go.Proofs.YtolchkdndnjhbaaGreatDoor
open Go Go.Sx
variable {w0 : World} {As : List Ent} {pv fv : Value} {pts fcs : List V3}
set_option maxRecDepth 100000 in
set_option maxHeartbeats 16000000 in
theorem meshMeasures_ok (ht : Tab w0) (d : DraftA) (b c : BendA) (hd : d.ok) (hb : b.ok) (hc : c.ok) [RdIn As d.ov Int (cI .i8) d.off] [FtIn As pv V3 cV3 pts] [FtIn As fv V3 cV3 fcs] :
    CallsS Tryz.prog w0 3 [.agg #[pv, fv], .agg #[.int .u8 d.kd, .int .u8 d.sz, .int .i16 d.a0, .int .i16 d.a1, .int .i16 d.a2, d.ov, .bool d.tn],
      .agg #[.int .u8 b.wh, .int .u8 b.ta, .int .u8 b.to_, .int .i64 b.n, .int .u8 c.wh, .int .u8 c.ta, .int .u8 c.to_, .int .i64 c.n]] As fun u _ => u = .bool true := by
  refine CallsS.rdOne pv fun hpv => CallsS.rdOne fv fun hfv => CallsS.rdOne d.ov fun hov => ?_
  refine CallsS.of_tri Tryz.func3 rfl Tryz.ntmps3 rfl ?_
  (repeat' (first | ((show TL _ _ _ _ (_ :: _) _ _ _; first | refine TL.fa ?_ | refine TL.ua ?_ | (refine TL.rba ?_; intro _) | (refine TL.rra ?_; first | rintro _ _ ⟨rfl, rfl⟩ | rintro _ _ rfl) | refine TL.offa ?_ | refine TL.off0a ?_ | refine TL.gu ?_ | fail)) | (first | refine Stp.h ?_ | refine Post.then_normal ?_ | refine Post.next ?_ | refine Post.block_other rfl ?_) | ((show Tri _ _ _ (.cond _ _ _) _ _ _; first | refine Tri.cTa ?_ | refine Tri.cFa ?_ | refine Tri.condTa ?_ | refine Tri.condFa ?_ | refine Tri.condNTa ?_ | refine Tri.condNFa ?_ | fail))))
  refine TL.call rfl rfl rfl (meshes_ok d b c hd hb hc) ?_
  rintro _ _ ⟨p0, f0, p1, f1, p2, f2, p3, f3, P1, F1, P2, F2, rfl, hp0, hf0, hp1, hf1, hp2, hf2, hp3, hf3, l1, l2, l3, l4, rfl⟩
  generalize pts.take (min pts.length 30) = P3
  generalize fcs.take (min fcs.length 30) = F3
  generalize d.mesh.1 = P0
  generalize d.mesh.2 = F0
  (repeat' (first | ((show TL _ _ _ _ (_ :: _) _ _ _; first | refine TL.fa ?_ | refine TL.ua ?_ | (refine TL.rba ?_; intro _) | (refine TL.rra ?_; first | rintro _ _ ⟨rfl, rfl⟩ | rintro _ _ rfl) | refine TL.offa ?_ | refine TL.off0a ?_ | refine TL.gu ?_ | fail)) | (first | refine Stp.h ?_ | refine Post.then_normal ?_ | refine Post.next ?_ | refine Post.block_other rfl ?_) | ((show Tri _ _ _ (.cond _ _ _) _ _ _; first | refine Tri.cTa ?_ | refine Tri.cFa ?_ | refine Tri.condTa ?_ | refine Tri.condFa ?_ | refine Tri.condNTa ?_ | refine Tri.condNFa ?_ | fail))))
  obtain ⟨E, hE⟩ : ∃ E, E = .ow cV3 41 p0 P0 :: .ow cV3 41 f0 F0 :: .ow cV3 41 p1 P1 :: .ow cV3 41 f1 F1 :: .ow cV3 41 p2 P2 :: .ow cV3 41 f2 F2 :: .ft (rd cV3 p3 P3) :: .ft (rd cV3 f3 F3) :: As := ⟨_, rfl⟩
  refine Tri.loop (ι := Nat) (fun k => k ≤ 4) (fun k => 4 - k) (fun k => [(28, .agg #[p0, f0, p1, f1, p2, f2, p3, f3]), (29, .int .i64 k)]) (fun _ => E) 0 (by omega) (by (exact Sub.au)) (by rw [hE]; (exact Ents.au)) ?_
  intro k hk
  (repeat' (first | ((show TL _ _ _ _ (_ :: _) _ _ _; first | refine TL.fa ?_ | refine TL.ua ?_ | (refine TL.rba ?_; intro _) | (refine TL.rra ?_; first | rintro _ _ ⟨rfl, rfl⟩ | rintro _ _ rfl) | refine TL.offa ?_ | refine TL.off0a ?_ | refine TL.gu ?_ | fail)) | (first | refine Stp.h ?_ | refine Post.then_normal ?_ | refine Post.next ?_ | refine Post.block_other rfl ?_) | ((show Tri _ _ _ (.cond _ _ _) _ _ _; first | refine Tri.cTa ?_ | refine Tri.cFa ?_ | refine Tri.condTa ?_ | refine Tri.condFa ?_ | refine Tri.condNTa ?_ | refine Tri.condNFa ?_ | fail))))
  ((show Tri _ _ _ (.cond _ _ _) _ _ _; first | refine Tri.condP rfl (fun hc => ?_) (fun hc => ?_) | refine Tri.condN rfl (fun hc => ?_) (fun hc => ?_)))
  · obtain ⟨p, f, P, F, hpf, ip, jf, hp, hf⟩ : ∃ p f P F, ([p0, f0, p1, f1, p2, f2, p3, f3].drop (k * 2)).take 2 = [p, f] ∧ RdIn E p V3 cV3 P ∧ RdIn E f V3 cV3 F ∧ p.oneCell' = true ∧ f.oneCell' = true := by
      rcases (by omega : k = 0 ∨ k = 1 ∨ k = 2 ∨ k = 3) with rfl | rfl | rfl | rfl
      · exact ⟨p0, f0, P0, F0, rfl, by rw [hE]; infer_instance, by rw [hE]; infer_instance, hp0, hf0⟩
      · exact ⟨p1, f1, P1, F1, rfl, by rw [hE]; infer_instance, by rw [hE]; infer_instance, hp1, hf1⟩
      · exact ⟨p2, f2, P2, F2, rfl, by rw [hE]; infer_instance, by rw [hE]; infer_instance, hp2, hf2⟩
      · exact ⟨p3, f3, P3, F3, rfl, by rw [hE]; infer_instance, by rw [hE]; infer_instance, hp3, hf3⟩
    have hk4 : Nat.blt k 4 = true := by rw [Nat.blt_eq]; omega
    (repeat' (first | ((show TL _ _ _ _ (_ :: _) _ _ _; first | refine TL.fa ?_ | refine TL.ua ?_ | (refine TL.rba ?_; intro _) | (refine TL.rra ?_; first | rintro _ _ ⟨rfl, rfl⟩ | rintro _ _ rfl) | refine TL.offa ?_ | refine TL.off0a ?_ | refine TL.gu ?_ | fail)) | (first | refine Stp.h ?_ | refine Post.then_normal ?_ | refine Post.next ?_ | refine Post.block_other rfl ?_) | ((show Tri _ _ _ (.cond _ _ _) _ _ _; first | refine Tri.cTa ?_ | refine Tri.cFa ?_ | refine Tri.condTa ?_ | refine Tri.condFa ?_ | refine Tri.condNTa ?_ | refine Tri.condNFa ?_ | fail))))
    refine TL.f rfl rfl (ExF.idxArrA rfl rfl rfl hk4 hpf) ?_
    (repeat' (first | ((show TL _ _ _ _ (_ :: _) _ _ _; first | refine TL.fa ?_ | refine TL.ua ?_ | (refine TL.rba ?_; intro _) | (refine TL.rra ?_; first | rintro _ _ ⟨rfl, rfl⟩ | rintro _ _ rfl) | refine TL.offa ?_ | refine TL.off0a ?_ | refine TL.gu ?_ | fail)) | (first | refine Stp.h ?_ | refine Post.then_normal ?_ | refine Post.next ?_ | refine Post.block_other rfl ?_) | ((show Tri _ _ _ (.cond _ _ _) _ _ _; first | refine Tri.cTa ?_ | refine Tri.cFa ?_ | refine Tri.condTa ?_ | refine Tri.condFa ?_ | refine Tri.condNTa ?_ | refine Tri.condNFa ?_ | fail))))
    refine TL.call rfl rfl rfl (volume6_ok ht) ?_
    rintro _ _ ⟨rfl, rfl⟩
    obtain ⟨tv, te, hv⟩ : ∃ tv te, (if okM P F then Value.tuple #[.string ⟨(textI (volM P F)).toArray⟩, .int .i64 0] else .tuple #[.string ⟨#[]⟩, .int .i64 350]) = .tuple #[.string tv, .int .i64 te] := by
      split
      · exact ⟨_, _, rfl⟩
      · exact ⟨_, _, rfl⟩
    rw [hv]
    (repeat' (first | ((show TL _ _ _ _ (_ :: _) _ _ _; first | refine TL.fa ?_ | refine TL.ua ?_ | (refine TL.rba ?_; intro _) | (refine TL.rra ?_; first | rintro _ _ ⟨rfl, rfl⟩ | rintro _ _ rfl) | refine TL.offa ?_ | refine TL.off0a ?_ | refine TL.gu ?_ | fail)) | (first | refine Stp.h ?_ | refine Post.then_normal ?_ | refine Post.next ?_ | refine Post.block_other rfl ?_) | ((show Tri _ _ _ (.cond _ _ _) _ _ _; first | refine Tri.cTa ?_ | refine Tri.cFa ?_ | refine Tri.condTa ?_ | refine Tri.condFa ?_ | refine Tri.condNTa ?_ | refine Tri.condNFa ?_ | fail))))
    refine TL.call rfl rfl rfl volume6R_ok ?_
    rintro _ _ ⟨rfl, rfl⟩
    rw [hv]
    generalize hx : eulerM P F = x
    generalize hy : boxM P F = y
    (repeat' (first | ((show TL _ _ _ _ (_ :: _) _ _ _; first | refine TL.fa ?_ | refine TL.ua ?_ | (refine TL.rba ?_; intro _) | (refine TL.rra ?_; first | rintro _ _ ⟨rfl, rfl⟩ | rintro _ _ rfl) | refine TL.offa ?_ | refine TL.off0a ?_ | refine TL.gu ?_ | fail)) | (first | refine Stp.h ?_ | refine Post.then_normal ?_ | refine Post.next ?_ | refine Post.block_other rfl ?_) | ((show Tri _ _ _ (.cond _ _ _) _ _ _; first | refine Tri.cTa ?_ | refine Tri.cFa ?_ | refine Tri.condTa ?_ | refine Tri.condFa ?_ | refine Tri.condNTa ?_ | refine Tri.condNFa ?_ | fail))))
    refine TL.call rfl rfl rfl euler_ok ?_
    rintro _ _ ⟨rfl, rfl⟩
    rw [hx]
    (repeat' (first | ((show TL _ _ _ _ (_ :: _) _ _ _; first | refine TL.fa ?_ | refine TL.ua ?_ | (refine TL.rba ?_; intro _) | (refine TL.rra ?_; first | rintro _ _ ⟨rfl, rfl⟩ | rintro _ _ rfl) | refine TL.offa ?_ | refine TL.off0a ?_ | refine TL.gu ?_ | fail)) | (first | refine Stp.h ?_ | refine Post.then_normal ?_ | refine Post.next ?_ | refine Post.block_other rfl ?_) | ((show Tri _ _ _ (.cond _ _ _) _ _ _; first | refine Tri.cTa ?_ | refine Tri.cFa ?_ | refine Tri.condTa ?_ | refine Tri.condFa ?_ | refine Tri.condNTa ?_ | refine Tri.condNFa ?_ | fail))))
    refine TL.call rfl rfl rfl eulerR_ok ?_
    rintro _ _ ⟨rfl, rfl⟩
    rw [hx]
    (repeat' (first | ((show TL _ _ _ _ (_ :: _) _ _ _; first | refine TL.fa ?_ | refine TL.ua ?_ | (refine TL.rba ?_; intro _) | (refine TL.rra ?_; first | rintro _ _ ⟨rfl, rfl⟩ | rintro _ _ rfl) | refine TL.offa ?_ | refine TL.off0a ?_ | refine TL.gu ?_ | fail)) | (first | refine Stp.h ?_ | refine Post.then_normal ?_ | refine Post.next ?_ | refine Post.block_other rfl ?_) | ((show Tri _ _ _ (.cond _ _ _) _ _ _; first | refine Tri.cTa ?_ | refine Tri.cFa ?_ | refine Tri.condTa ?_ | refine Tri.condFa ?_ | refine Tri.condNTa ?_ | refine Tri.condNFa ?_ | fail))))
    refine TL.call rfl rfl rfl box_ok ?_
    rintro _ _ ⟨rfl, rfl⟩
    rw [hy]
    (repeat' (first | ((show TL _ _ _ _ (_ :: _) _ _ _; first | refine TL.fa ?_ | refine TL.ua ?_ | (refine TL.rba ?_; intro _) | (refine TL.rra ?_; first | rintro _ _ ⟨rfl, rfl⟩ | rintro _ _ rfl) | refine TL.offa ?_ | refine TL.off0a ?_ | refine TL.gu ?_ | fail)) | (first | refine Stp.h ?_ | refine Post.then_normal ?_ | refine Post.next ?_ | refine Post.block_other rfl ?_) | ((show Tri _ _ _ (.cond _ _ _) _ _ _; first | refine Tri.cTa ?_ | refine Tri.cFa ?_ | refine Tri.condTa ?_ | refine Tri.condFa ?_ | refine Tri.condNTa ?_ | refine Tri.condNFa ?_ | fail))))
    refine TL.call rfl rfl rfl boxR_ok ?_
    rintro _ _ ⟨rfl, rfl⟩
    rw [hy]
    (repeat' (first | ((show TL _ _ _ _ (_ :: _) _ _ _; first | refine TL.fa ?_ | refine TL.ua ?_ | (refine TL.rba ?_; intro _) | (refine TL.rra ?_; first | rintro _ _ ⟨rfl, rfl⟩ | rintro _ _ rfl) | refine TL.offa ?_ | refine TL.off0a ?_ | refine TL.gu ?_ | fail)) | (first | refine Stp.h ?_ | refine Post.then_normal ?_ | refine Post.next ?_ | refine Post.block_other rfl ?_) | ((show Tri _ _ _ (.cond _ _ _) _ _ _; first | refine Tri.cTa ?_ | refine Tri.cFa ?_ | refine Tri.condTa ?_ | refine Tri.condFa ?_ | refine Tri.condNTa ?_ | refine Tri.condNFa ?_ | fail))))
    iterate 3
      refine TL.gNF rfl rfl rfl ?_
      (repeat' (first | ((show TL _ _ _ _ (_ :: _) _ _ _; first | refine TL.fa ?_ | refine TL.ua ?_ | (refine TL.rba ?_; intro _) | (refine TL.rra ?_; first | rintro _ _ ⟨rfl, rfl⟩ | rintro _ _ rfl) | refine TL.offa ?_ | refine TL.off0a ?_ | refine TL.gu ?_ | fail)) | (first | refine Stp.h ?_ | refine Post.then_normal ?_ | refine Post.next ?_ | refine Post.block_other rfl ?_) | (first | (show TT _ _ _ _ _ _ _ _ _; first | refine TT.takea ?_ | refine TT.takeMa ?_ | refine TT.takeOffa ?_ | refine TT.gu ?_ | fail) | exact TTs.nil | refine TTs.cons ?_ ?_ | (show T1 _ _ _ _ _ _ _ _ _ _; first | refine T1.ua ?_ | (refine T1.rba ?_; intro _) | (refine T1.rra ?_; first | rintro _ _ ⟨rfl, rfl⟩ | rintro _ _ rfl) | refine T1.fa ?_ | refine T1.offa ?_ | refine T1.off0a ?_ | fail) | (show TC _ _ _ _ _ _ _ _ _ _; first | refine TC.goa ?_ | refine TC.fina ?_ | fail)) | ((show Tri _ _ _ (.cond _ _ _) _ _ _; first | refine Tri.cTa ?_ | refine Tri.cFa ?_ | refine Tri.condTa ?_ | refine Tri.condFa ?_ | refine Tri.condNTa ?_ | refine Tri.condNFa ?_ | fail))))
    exact Post.round (k + 1) (by omega) (by omega) (by (exact Sub.au)) (by (exact Ents.au))
  · (repeat' (first | ((show TL _ _ _ _ (_ :: _) _ _ _; first | refine TL.fa ?_ | refine TL.ua ?_ | (refine TL.rba ?_; intro _) | (refine TL.rra ?_; first | rintro _ _ ⟨rfl, rfl⟩ | rintro _ _ rfl) | refine TL.offa ?_ | refine TL.off0a ?_ | refine TL.gu ?_ | fail)) | (first | refine Stp.h ?_ | refine Post.then_normal ?_ | refine Post.next ?_ | refine Post.block_other rfl ?_) | (first | (show TT _ _ _ _ _ _ _ _ _; first | refine TT.takea ?_ | refine TT.takeMa ?_ | refine TT.takeOffa ?_ | refine TT.gu ?_ | fail) | exact TTs.nil | refine TTs.cons ?_ ?_ | (show T1 _ _ _ _ _ _ _ _ _ _; first | refine T1.ua ?_ | (refine T1.rba ?_; intro _) | (refine T1.rra ?_; first | rintro _ _ ⟨rfl, rfl⟩ | rintro _ _ rfl) | refine T1.fa ?_ | refine T1.offa ?_ | refine T1.off0a ?_ | fail) | (show TC _ _ _ _ _ _ _ _ _ _; first | refine TC.goa ?_ | refine TC.fina ?_ | fail)) | ((show Tri _ _ _ (.cond _ _ _) _ _ _; first | refine Tri.cTa ?_ | refine Tri.cFa ?_ | refine Tri.condTa ?_ | refine Tri.condFa ?_ | refine Tri.condNTa ?_ | refine Tri.condNFa ?_ | fail))))
    refine TL.call rfl rfl rfl (works_ok ht) ?_
    rintro _ _ ⟨rfl, rfl⟩
    (repeat' (first | ((show TL _ _ _ _ (_ :: _) _ _ _; first | refine TL.fa ?_ | refine TL.ua ?_ | (refine TL.rba ?_; intro _) | (refine TL.rra ?_; first | rintro _ _ ⟨rfl, rfl⟩ | rintro _ _ rfl) | refine TL.offa ?_ | refine TL.off0a ?_ | refine TL.gu ?_ | fail)) | (first | refine Stp.h ?_ | refine Post.then_normal ?_ | refine Post.next ?_ | refine Post.block_other rfl ?_) | (first | (show TT _ _ _ _ _ _ _ _ _; first | refine TT.takea ?_ | refine TT.takeMa ?_ | refine TT.takeOffa ?_ | refine TT.gu ?_ | fail) | exact TTs.nil | refine TTs.cons ?_ ?_ | (show T1 _ _ _ _ _ _ _ _ _ _; first | refine T1.ua ?_ | (refine T1.rba ?_; intro _) | (refine T1.rra ?_; first | rintro _ _ ⟨rfl, rfl⟩ | rintro _ _ rfl) | refine T1.fa ?_ | refine T1.offa ?_ | refine T1.off0a ?_ | fail) | (show TC _ _ _ _ _ _ _ _ _ _; first | refine TC.goa ?_ | refine TC.fina ?_ | fail)) | ((show Tri _ _ _ (.cond _ _ _) _ _ _; first | refine Tri.cTa ?_ | refine Tri.cFa ?_ | refine Tri.condTa ?_ | refine Tri.condFa ?_ | refine Tri.condNTa ?_ | refine Tri.condNFa ?_ | fail))))
    ((try refine Post.ret_normal ?_); first | refine Post.r1a ?_ | refine Post.r2a ?_ | refine Post.r3a ?_ | refine Post.r0a ?_ | fail)
    exact ⟨[], rfl, Ents.of_cov inferInstance⟩
end Go.Proofs.YtolchkdndnjhbaaGreatDoor
