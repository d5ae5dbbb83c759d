/- Walks: the laws' meshes: a draft, two changes, an arbitrary one; MeshFlaws. -/
import Derived.Test.YtolchkdndnjhbaaDoorMr6
import Derived.Test.YtolchkdndnjhbaaDoorMl2
namespace Go.Proofs.YtolchkdndnjhbaaDoor
open Go Go.Sx
variable {w0 : World} {As : List Ent} {pv fv : Value} {pts fcs : List V3}
/-- what a draft is made of -/
structure DraftA where
  kd : Int
  sz : Int
  a0 : Int
  a1 : Int
  a2 : Int
  ov : Value
  off : List Int
  tn : Bool
def DraftA.ok (d : DraftA) : Prop := (0 ≤ d.kd ∧ d.kd ≤ 255) ∧ (0 ≤ d.sz ∧ d.sz ≤ 255) ∧ (-32768 ≤ d.a0 ∧ d.a0 ≤ 32767) ∧ (-32768 ≤ d.a1 ∧ d.a1 ≤ 32767) ∧ (-32768 ≤ d.a2 ∧ d.a2 ≤ 32767) ∧ (∀ x ∈ d.off, -128 ≤ x ∧ x ≤ 127) ∧ d.off.length ≤ 9223372036854775807
def DraftA.cells (d : DraftA) : List Value := [.int .u8 d.kd, .int .u8 d.sz, .int .i16 d.a0, .int .i16 d.a1, .int .i16 d.a2, d.ov, .bool d.tn]
def DraftA.mesh (d : DraftA) : List V3 × List V3 := draftM (d.kd % 4).toNat (1000 + 100 * d.sz) ⟨d.a0, d.a1, d.a2⟩ d.off d.tn
structure BendA where
  wh : Int
  ta : Int
  to_ : Int
  n : Int
def BendA.ok (b : BendA) : Prop := (0 ≤ b.wh ∧ b.wh ≤ 255) ∧ (0 ≤ b.ta ∧ b.ta ≤ 255) ∧ (0 ≤ b.to_ ∧ b.to_ ≤ 255)
theorem draftA_ok (d : DraftA) (h : d.ok) [RdIn As d.ov Int (cI .i8) d.off] : CallsS Tryd.prog w0 19 [.agg #[.int .u8 d.kd, .int .u8 d.sz, .int .i16 d.a0, .int .i16 d.a1, .int .i16 d.a2, d.ov, .bool d.tn]] As (MeshV As d.mesh) := by
  obtain ⟨h1, h2, h3, h4, h5, h6, h7⟩ := h
  exact draft_ok h1 h2 h3 h4 h5 h6 h7
theorem bendA_ok (b : BendA) (h : b.ok) [RdIn As fv V3 cV3 fcs] [RdIn As pv V3 cV3 pts] : CallsS Tryd.prog w0 29 [.agg #[.int .u8 b.wh, .int .u8 b.ta, .int .u8 b.to_, .int .i64 b.n], .agg #[pv, fv]] As (BendR As b.wh.toNat pts fcs) := by
  obtain ⟨h1, h2, h3⟩ := h
  exact bend_ok h1 h2 h3
/-- the four meshes: the drafted one, two changed ones, the beginning of an arbitrary one -/
def MeshesR (As : List Ent) (d : DraftA) (pts fcs : List V3) (v : Value) (Bs : List Ent) : Prop := ∃ p0 f0 p1 f1 p2 f2 p3 f3, ∃ P1 F1 P2 F2 : List V3, v = .agg #[p0, f0, p1, f1, p2, f2, p3, f3] ∧
  p0.oneCell' = true ∧ f0.oneCell' = true ∧ p1.oneCell' = true ∧ f1.oneCell' = true ∧ p2.oneCell' = true ∧ f2.oneCell' = true ∧ p3.oneCell' = true ∧ f3.oneCell' = true ∧
  P1.length ≤ 80 ∧ F1.length ≤ 80 ∧ P2.length ≤ 80 ∧ F2.length ≤ 80 ∧
  Bs = .ow cV3 33 p0 d.mesh.1 :: .ow cV3 33 f0 d.mesh.2 :: .ow cV3 33 p1 P1 :: .ow cV3 33 f1 F1 :: .ow cV3 33 p2 P2 :: .ow cV3 33 f2 F2 :: .ft (rd cV3 p3 (pts.take (min pts.length 30))) :: .ft (rd cV3 f3 (fcs.take (min fcs.length 30))) :: As
set_option maxRecDepth 100000 in
set_option maxHeartbeats 4000000 in
theorem meshes_ok (d : DraftA) (b c : BendA) (hd : d.ok) (hb : b.ok) (hc : c.ok) [RdIn As d.ov Int (cI .i8) d.off] [FtIn As pv V3 cV3 pts] [FtIn As fv V3 cV3 fcs] :
    CallsS Tryd.prog w0 8 [.agg #[pv, fv], .agg #[.int .u8 d.kd, .int .u8 d.sz, .int .i16 d.a0, .int .i16 d.a1, .int .i16 d.a2, d.ov, .bool d.tn],
      .agg #[.int .u8 b.wh, .int .u8 b.ta, .int .u8 b.to_, .int .i64 b.n, .int .u8 c.wh, .int .u8 c.ta, .int .u8 c.to_, .int .i64 c.n]] As (MeshesR As d pts fcs) := by
  refine CallsS.rdOne pv fun hpv => CallsS.rdOne fv fun hfv => CallsS.rdOne d.ov fun hov => ?_
  refine CallsS.of_tri Tryd.func8 rfl Tryd.ntmps8 rfl ?_
  (repeat' (first | ((show TL _ _ _ _ (_ :: _) _ _ _; first | refine TL.fa ?_ | refine TL.ua ?_ | (refine TL.rba ?_; intro _) | (refine TL.rra ?_; first | rintro _ _ ⟨rfl, rfl⟩ | rintro _ _ rfl) | refine TL.offa ?_ | refine TL.off0a ?_ | refine TL.gu ?_ | fail)) | (first | refine Stp.h ?_ | refine Post.then_normal ?_ | refine Post.next ?_ | refine Post.block_other rfl ?_) | ((show Tri _ _ _ (.cond _ _ _) _ _ _; first | refine Tri.cTa ?_ | refine Tri.cFa ?_ | refine Tri.condTa ?_ | refine Tri.condFa ?_ | refine Tri.condNTa ?_ | refine Tri.condNFa ?_ | fail))))
  rename_i b3 b4 b5 b6
  refine TL.call rfl rfl rfl (draftA_ok d hd) ?_
  rintro _ _ ⟨p0, f0, rfl, hp0, hf0, rfl⟩
  (repeat' (first | ((show TL _ _ _ _ (_ :: _) _ _ _; first | refine TL.fa ?_ | refine TL.ua ?_ | (refine TL.rba ?_; intro _) | (refine TL.rra ?_; first | rintro _ _ ⟨rfl, rfl⟩ | rintro _ _ rfl) | refine TL.offa ?_ | refine TL.off0a ?_ | refine TL.gu ?_ | fail)) | (first | refine Stp.h ?_ | refine Post.then_normal ?_ | refine Post.next ?_ | refine Post.block_other rfl ?_) | ((show Tri _ _ _ (.cond _ _ _) _ _ _; first | refine Tri.cTa ?_ | refine Tri.cFa ?_ | refine Tri.condTa ?_ | refine Tri.condFa ?_ | refine Tri.condNTa ?_ | refine Tri.condNFa ?_ | fail))))
  refine TL.call rfl rfl rfl (bendA_ok b hb) ?_
  rintro _ _ ⟨p1, f1, P1, F1, rfl, hp1, hf1, ⟨l1, l2, _, _⟩, rfl⟩
  (repeat' (first | ((show TL _ _ _ _ (_ :: _) _ _ _; first | refine TL.fa ?_ | refine TL.ua ?_ | (refine TL.rba ?_; intro _) | (refine TL.rra ?_; first | rintro _ _ ⟨rfl, rfl⟩ | rintro _ _ rfl) | refine TL.offa ?_ | refine TL.off0a ?_ | refine TL.gu ?_ | fail)) | (first | refine Stp.h ?_ | refine Post.then_normal ?_ | refine Post.next ?_ | refine Post.block_other rfl ?_) | ((show Tri _ _ _ (.cond _ _ _) _ _ _; first | refine Tri.cTa ?_ | refine Tri.cFa ?_ | refine Tri.condTa ?_ | refine Tri.condFa ?_ | refine Tri.condNTa ?_ | refine Tri.condNFa ?_ | fail))))
  rename_i b7 b8
  refine Tri.dr (.take 0 (.take 1 (.take 2 (.take 3 (.take 4 (.take 6 (.all [(5, .all [(7, .take 8 (.all [(9, .done)]))])]))))))) ?_
  (repeat' (first | ((show TL _ _ _ _ (_ :: _) _ _ _; first | refine TL.fa ?_ | refine TL.ua ?_ | (refine TL.rba ?_; intro _) | (refine TL.rra ?_; first | rintro _ _ ⟨rfl, rfl⟩ | rintro _ _ rfl) | refine TL.offa ?_ | refine TL.off0a ?_ | refine TL.gu ?_ | fail)) | (first | refine Stp.h ?_ | refine Post.then_normal ?_ | refine Post.next ?_ | refine Post.block_other rfl ?_) | (first | (show TT _ _ _ _ _ _ _ _ _; first | refine TT.takea ?_ | refine TT.takeMa ?_ | refine TT.takeOffa ?_ | refine TT.gu ?_ | fail) | exact TTs.nil | refine TTs.cons ?_ ?_ | (show T1 _ _ _ _ _ _ _ _ _ _; first | refine T1.ua ?_ | (refine T1.rba ?_; intro _) | (refine T1.rra ?_; first | rintro _ _ ⟨rfl, rfl⟩ | rintro _ _ rfl) | refine T1.fa ?_ | refine T1.offa ?_ | refine T1.off0a ?_ | fail) | (show TC _ _ _ _ _ _ _ _ _ _; first | refine TC.goa ?_ | refine TC.fina ?_ | fail)) | ((show Tri _ _ _ (.cond _ _ _) _ _ _; first | refine Tri.cTa ?_ | refine Tri.cFa ?_ | refine Tri.condTa ?_ | refine Tri.condFa ?_ | refine Tri.condNTa ?_ | refine Tri.condNFa ?_ | fail))))
  refine T1.call rfl rfl rfl rfl (bendA_ok c hc) ?_
  rintro _ _ ⟨p2, f2, P2, F2, rfl, hp2, hf2, ⟨l3, l4, _, _⟩, rfl⟩
  (repeat' (first | ((show TL _ _ _ _ (_ :: _) _ _ _; first | refine TL.fa ?_ | refine TL.ua ?_ | (refine TL.rba ?_; intro _) | (refine TL.rra ?_; first | rintro _ _ ⟨rfl, rfl⟩ | rintro _ _ rfl) | refine TL.offa ?_ | refine TL.off0a ?_ | refine TL.gu ?_ | fail)) | (first | refine Stp.h ?_ | refine Post.then_normal ?_ | refine Post.next ?_ | refine Post.block_other rfl ?_) | (first | (show TT _ _ _ _ _ _ _ _ _; first | refine TT.takea ?_ | refine TT.takeMa ?_ | refine TT.takeOffa ?_ | refine TT.gu ?_ | fail) | exact TTs.nil | refine TTs.cons ?_ ?_ | (show T1 _ _ _ _ _ _ _ _ _ _; first | refine T1.ua ?_ | (refine T1.rba ?_; intro _) | (refine T1.rra ?_; first | rintro _ _ ⟨rfl, rfl⟩ | rintro _ _ rfl) | refine T1.fa ?_ | refine T1.offa ?_ | refine T1.off0a ?_ | fail) | (show TC _ _ _ _ _ _ _ _ _ _; first | refine TC.goa ?_ | refine TC.fina ?_ | fail)) | ((show Tri _ _ _ (.cond _ _ _) _ _ _; first | refine Tri.cTa ?_ | refine Tri.cFa ?_ | refine Tri.condTa ?_ | refine Tri.condFa ?_ | refine Tri.condNTa ?_ | refine Tri.condNFa ?_ | fail))))
  refine T1.call rfl rfl rfl rfl few_ok ?_
  rintro _ _ ⟨p3, f3, rfl, hp3, hf3, rfl⟩
  (repeat' (first | ((show TL _ _ _ _ (_ :: _) _ _ _; first | refine TL.fa ?_ | refine TL.ua ?_ | (refine TL.rba ?_; intro _) | (refine TL.rra ?_; first | rintro _ _ ⟨rfl, rfl⟩ | rintro _ _ rfl) | refine TL.offa ?_ | refine TL.off0a ?_ | refine TL.gu ?_ | fail)) | (first | refine Stp.h ?_ | refine Post.then_normal ?_ | refine Post.next ?_ | refine Post.block_other rfl ?_) | (first | (show TT _ _ _ _ _ _ _ _ _; first | refine TT.takea ?_ | refine TT.takeMa ?_ | refine TT.takeOffa ?_ | refine TT.gu ?_ | fail) | exact TTs.nil | refine TTs.cons ?_ ?_ | (show T1 _ _ _ _ _ _ _ _ _ _; first | refine T1.ua ?_ | (refine T1.rba ?_; intro _) | (refine T1.rra ?_; first | rintro _ _ ⟨rfl, rfl⟩ | rintro _ _ rfl) | refine T1.fa ?_ | refine T1.offa ?_ | refine T1.off0a ?_ | fail) | (show TC _ _ _ _ _ _ _ _ _ _; first | refine TC.goa ?_ | refine TC.fina ?_ | fail)) | ((show Tri _ _ _ (.cond _ _ _) _ _ _; first | refine Tri.cTa ?_ | refine Tri.cFa ?_ | refine Tri.condTa ?_ | refine Tri.condFa ?_ | refine Tri.condNTa ?_ | refine Tri.condNFa ?_ | fail))))
  ((try refine Post.ret_normal ?_); first | refine Post.r1a ?_ | refine Post.r2a ?_ | refine Post.r3a ?_ | refine Post.r0a ?_ | fail)
  refine ⟨_, ⟨p0, f0, p1, f1, p2, f2, p3, f3, P1, F1, P2, F2, rfl, hp0, hf0, hp1, hf1, hp2, hf2, hp3, hf3, l1, l2, l3, l4, rfl⟩, ?_⟩
  (exact Ents.au)
end Go.Proofs.YtolchkdndnjhbaaDoor
