/- Walks: pairs of texts and of drafted numbers. -/
import Derived.Test.YtfbhlfhecmhihaaGreatDoorLa2
import Derived.Test.YtfbhlfhecmhihaaGreatDoorVb3
namespace Go.Sx
open Go
section
variable {P : Program} {N : Ctx} {w0 : World} {e : Env} {As : List Ent} {ty t : TypeId} {x : Operand} {l : List UInt8} {hi : Nat}
/-- s[:hi], looked at -/
theorem ExF.sliceStr0 {b : Option Operand} [UL P t .string] (hx : ev e x = some (.string ⟨l.toArray⟩)) (hh : evHi e l.length b hi) (h2 : hi ≤ l.length) :
    ExF P N w0 (.slice t x none b none) ty e As (.string ⟨(l.take hi).toArray⟩) := by
  have h0 := ExR.sliceStr (P := P) (N := N) (w0 := w0) (e := e) (As := As) (ty := ty) (t := t) (a := none) (b := b) (lo := 0) (hi := hi) hx rfl hh (Nat.zero_le _) h2
  unfold ExR at h0
  unfold ExF
  intro ac w ha hs d pos af g
  obtain ⟨v, w', As', hrun, ⟨h3, h4⟩, _⟩ := h0 ac w ha hs d pos af g
  have h5 : (⟨l.toArray⟩ : ByteArray).extract 0 hi = ⟨((l.drop 0).take (hi - 0)).toArray⟩ := Lib.extract_eq _ 0 hi
  have hsz : (⟨l.toArray⟩ : ByteArray).size = l.length := size_toArray l
  have hrun' : ∀ (hi' : Option Value), ((hi' = none ∧ hi = l.length) ∨ ∃ k, hi' = some (.int k (hi : Int))) → (Instr.sliceAt t (.string ⟨l.toArray⟩) none hi' none).run P w = .ok (.string ⟨(l.take hi).toArray⟩) w := by
    intro hi' hh
    rcases hh with ⟨rfl, rfl⟩ | ⟨k', rfl⟩ <;> simp only [Instr.sliceAt, Instr.slice, Instr.sliceBounds, Instr.sliceBound, asIntOf, Sem.run_bind, run_und, Result.andThen_ok, hsz] <;> simp [hsz, h2, h5]
  simp [execOp, ha.eval hx, hrun' _ (hh.run ha)]
end
/-- two texts -/
def cP : Cod (List UInt8 × List UInt8) := ⟨2, fun p => [.string ⟨p.1.toArray⟩, .string ⟨p.2.toArray⟩], fun _ => rfl, fun p v hv => by
  simp only [List.mem_cons, List.not_mem_nil, or_false] at hv
  rcases hv with rfl | rfl <;> rfl⟩
instance {a b : List UInt8} : EncL cP (a, b) [.string ⟨a.toArray⟩, .string ⟨b.toArray⟩] := ⟨rfl⟩
instance {a b : List UInt8} : DecL cP [.string ⟨a.toArray⟩, .string ⟨b.toArray⟩] (a, b) := ⟨rfl⟩
structure Two01 where
  a : List UInt8
  b : List UInt8
  x : D01
  y : D01
def Two01.cells (t : Two01) : List Value := .string ⟨t.a.toArray⟩ :: .string ⟨t.b.toArray⟩ :: (t.x.cells ++ t.y.cells)
def Two01.ok (t : Two01) : Prop := t.x.ok ∧ t.y.ok
def Two01.pairs (t : Two01) : List (List UInt8 × List UInt8) := [(t.a.take (min t.a.length 620), t.b.take (min t.b.length 620)), (textI t.x.num, textI t.y.num), (t.a.take (min t.a.length 620), textI t.y.num), (textI t.y.num, t.b.take (min t.b.length 620))]
theorem D01.dg (d : D01) : Dg d.num := ⟨d.digits⟩
theorem Two01.short (t : Two01) : ∀ p ∈ t.pairs, p.1.length ≤ 1000000000 ∧ p.2.length ≤ 1000000000 := by
  have h1 := t.x.dg.len
  have h2 := t.y.dg.len
  intro p hp
  simp only [Two01.pairs, List.mem_cons, List.not_mem_nil, or_false] at hp
  rcases hp with rfl | rfl | rfl | rfl <;> simp only [List.length_take] <;> omega
end Go.Sx
namespace Go.Proofs.YtfbhlfhecmhihaaGreatDoor
open Go Go.Sx
variable {w0 : World} {As : List Ent}
set_option maxRecDepth 100000 in
theorem pairs_ok (t : Two01) [h1 : RdIn As t.x.gv Nat (cN .u16) t.x.gs] [h2 : RdIn As t.y.gv Nat (cN .u16) t.y.gs] (ht : t.ok) :
    CallsS Tryz.prog w0 14 [.agg t.cells.toArray] As fun u Bs => ∃ b, u = .slice (some ⟨b, 0, none⟩) 4 4 ∧ Bs = .ow cP 33 u t.pairs :: As := by
  obtain ⟨a, b, ⟨bl1, gv1, gs1, z1⟩, ⟨bl2, gv2, gs2, z2⟩⟩ := t
  obtain ⟨k1, k2⟩ := ht
  simp only at k1 k2
  replace h1 : RdIn As gv1 Nat (cN .u16) gs1 := h1
  replace h2 : RdIn As gv2 Nat (cN .u16) gs2 := h2
  refine CallsS.rdOne gv1 fun o1 => CallsS.rdOne gv2 fun o2 => ?_
  refine CallsS.of_tri Tryz.func14 rfl Tryz.ntmps14 rfl ?_
  show Tri _ _ _ _ (env0 0 [.agg #[.string ⟨a.toArray⟩, .string ⟨b.toArray⟩, .bool bl1, gv1, .int .u16 (z1 : Int), .bool bl2, gv2, .int .u16 (z2 : Int)]]) _ _
  have m1 : (if (620 : Int) < (a.length : Int) then 620 else (a.length : Int)) = ((min a.length 620 : Nat) : Int) := by split <;> omega
  have m2 : (if (620 : Int) < (b.length : Int) then 620 else (b.length : Int)) = ((min b.length 620 : Nat) : Int) := by split <;> omega
  (repeat' (first | ((show TL _ _ _ _ (_ :: _) _ _ _; first | refine TL.fa ?_ | refine TL.ua ?_ | (refine TL.rba ?_; intro _) | (refine TL.rra ?_; first | rintro _ _ ⟨rfl, rfl⟩ | rintro _ _ rfl) | refine TL.offa ?_ | refine TL.off0a ?_ | refine TL.gu ?_ | fail)) | (first | refine Stp.h ?_ | refine Post.then_normal ?_ | refine Post.next ?_ | refine Post.block_other rfl ?_) | ((show Tri _ _ _ (.cond _ _ _) _ _ _; first | refine Tri.cTa ?_ | refine Tri.cFa ?_ | refine Tri.condTa ?_ | refine Tri.condFa ?_ | refine Tri.condNTa ?_ | refine Tri.condNFa ?_ | fail))))
  refine Tri.dr (.take 0 (.take 1 (.take 2 (.take 3 (.take 4 (.take 5 (.take 6 (.take 7 (.take 8 (.take 9 (.take 10 (.take 11 (.take 12 (.take 13 (.take 14 (.take 15 (.done))))))))))))))))) ?_
  (repeat' (first | ((show TL _ _ _ _ (_ :: _) _ _ _; first | refine TL.fa ?_ | refine TL.ua ?_ | (refine TL.rba ?_; intro _) | (refine TL.rra ?_; first | rintro _ _ ⟨rfl, rfl⟩ | rintro _ _ rfl) | refine TL.offa ?_ | refine TL.off0a ?_ | refine TL.gu ?_ | fail)) | (first | refine Stp.h ?_ | refine Post.then_normal ?_ | refine Post.next ?_ | refine Post.block_other rfl ?_) | (first | (show TT _ _ _ _ _ _ _ _ _; first | refine TT.takea ?_ | refine TT.takeMa ?_ | refine TT.takeOffa ?_ | refine TT.gu ?_ | fail) | exact TTs.nil | refine TTs.cons ?_ ?_ | (show T1 _ _ _ _ _ _ _ _ _ _; first | refine T1.ua ?_ | (refine T1.rba ?_; intro _) | (refine T1.rra ?_; first | rintro _ _ ⟨rfl, rfl⟩ | rintro _ _ rfl) | refine T1.fa ?_ | refine T1.offa ?_ | refine T1.off0a ?_ | fail) | (show TC _ _ _ _ _ _ _ _ _ _; first | refine TC.goa ?_ | refine TC.fina ?_ | fail)) | ((show Tri _ _ _ (.cond _ _ _) _ _ _; first | refine Tri.cTa ?_ | refine Tri.cFa ?_ | refine Tri.condTa ?_ | refine Tri.condFa ?_ | refine Tri.condNTa ?_ | refine Tri.condNFa ?_ | fail))))
  rw [m1]
  refine TT.take rfl rfl rfl (ExF.sliceStr0 (hi := min a.length 620) rfl (evHi.so rfl) (by omega)) ?_
  (repeat' (first | ((show TL _ _ _ _ (_ :: _) _ _ _; first | refine TL.fa ?_ | refine TL.ua ?_ | (refine TL.rba ?_; intro _) | (refine TL.rra ?_; first | rintro _ _ ⟨rfl, rfl⟩ | rintro _ _ rfl) | refine TL.offa ?_ | refine TL.off0a ?_ | refine TL.gu ?_ | fail)) | (first | refine Stp.h ?_ | refine Post.then_normal ?_ | refine Post.next ?_ | refine Post.block_other rfl ?_) | (first | (show TT _ _ _ _ _ _ _ _ _; first | refine TT.takea ?_ | refine TT.takeMa ?_ | refine TT.takeOffa ?_ | refine TT.gu ?_ | fail) | exact TTs.nil | refine TTs.cons ?_ ?_ | (show T1 _ _ _ _ _ _ _ _ _ _; first | refine T1.ua ?_ | (refine T1.rba ?_; intro _) | (refine T1.rra ?_; first | rintro _ _ ⟨rfl, rfl⟩ | rintro _ _ rfl) | refine T1.fa ?_ | refine T1.offa ?_ | refine T1.off0a ?_ | fail) | (show TC _ _ _ _ _ _ _ _ _ _; first | refine TC.goa ?_ | refine TC.fina ?_ | fail)) | ((show Tri _ _ _ (.cond _ _ _) _ _ _; first | refine Tri.cTa ?_ | refine Tri.cFa ?_ | refine Tri.condTa ?_ | refine Tri.condFa ?_ | refine Tri.condNTa ?_ | refine Tri.condNFa ?_ | fail))))
  rw [m2]
  refine TT.take rfl rfl rfl (ExF.sliceStr0 (hi := min b.length 620) rfl (evHi.so rfl) (by omega)) ?_
  (repeat' (first | ((show TL _ _ _ _ (_ :: _) _ _ _; first | refine TL.fa ?_ | refine TL.ua ?_ | (refine TL.rba ?_; intro _) | (refine TL.rra ?_; first | rintro _ _ ⟨rfl, rfl⟩ | rintro _ _ rfl) | refine TL.offa ?_ | refine TL.off0a ?_ | refine TL.gu ?_ | fail)) | (first | refine Stp.h ?_ | refine Post.then_normal ?_ | refine Post.next ?_ | refine Post.block_other rfl ?_) | (first | (show TT _ _ _ _ _ _ _ _ _; first | refine TT.takea ?_ | refine TT.takeMa ?_ | refine TT.takeOffa ?_ | refine TT.gu ?_ | fail) | exact TTs.nil | refine TTs.cons ?_ ?_ | (show T1 _ _ _ _ _ _ _ _ _ _; first | refine T1.ua ?_ | (refine T1.rba ?_; intro _) | (refine T1.rra ?_; first | rintro _ _ ⟨rfl, rfl⟩ | rintro _ _ rfl) | refine T1.fa ?_ | refine T1.offa ?_ | refine T1.off0a ?_ | fail) | (show TC _ _ _ _ _ _ _ _ _ _; first | refine TC.goa ?_ | refine TC.fina ?_ | fail)) | ((show Tri _ _ _ (.cond _ _ _) _ _ _; first | refine Tri.cTa ?_ | refine Tri.cFa ?_ | refine Tri.condTa ?_ | refine Tri.condFa ?_ | refine Tri.condNTa ?_ | refine Tri.condNFa ?_ | fail))))
  refine Tri.dr (.take 0 (.take 1 (.take 3 (.take 4 (.all [(2, .all [(5, .take 6 (.take 7 (.done)))])]))))) ?_
  (repeat' (first | ((show TL _ _ _ _ (_ :: _) _ _ _; first | refine TL.fa ?_ | refine TL.ua ?_ | (refine TL.rba ?_; intro _) | (refine TL.rra ?_; first | rintro _ _ ⟨rfl, rfl⟩ | rintro _ _ rfl) | refine TL.offa ?_ | refine TL.off0a ?_ | refine TL.gu ?_ | fail)) | (first | refine Stp.h ?_ | refine Post.then_normal ?_ | refine Post.next ?_ | refine Post.block_other rfl ?_) | (first | (show TT _ _ _ _ _ _ _ _ _; first | refine TT.takea ?_ | refine TT.takeMa ?_ | refine TT.takeOffa ?_ | refine TT.gu ?_ | fail) | exact TTs.nil | refine TTs.cons ?_ ?_ | (show T1 _ _ _ _ _ _ _ _ _ _; first | refine T1.ua ?_ | (refine T1.rba ?_; intro _) | (refine T1.rra ?_; first | rintro _ _ ⟨rfl, rfl⟩ | rintro _ _ rfl) | refine T1.fa ?_ | refine T1.offa ?_ | refine T1.off0a ?_ | fail) | (show TC _ _ _ _ _ _ _ _ _ _; first | refine TC.goa ?_ | refine TC.fina ?_ | fail)) | ((show Tri _ _ _ (.cond _ _ _) _ _ _; first | refine Tri.cTa ?_ | refine Tri.cFa ?_ | refine Tri.condTa ?_ | refine Tri.condFa ?_ | refine Tri.condNTa ?_ | refine Tri.condNFa ?_ | fail))))
  refine T1.callv rfl rfl rfl rfl rfl (wholeR_ok ⟨bl1, gv1, gs1, z1⟩ (hr := RdIn.tl (h := h1)) k1) ?_
  rintro _ _ ⟨rfl, rfl⟩
  (repeat' (first | ((show TL _ _ _ _ (_ :: _) _ _ _; first | refine TL.fa ?_ | refine TL.ua ?_ | (refine TL.rba ?_; intro _) | (refine TL.rra ?_; first | rintro _ _ ⟨rfl, rfl⟩ | rintro _ _ rfl) | refine TL.offa ?_ | refine TL.off0a ?_ | refine TL.gu ?_ | fail)) | (first | refine Stp.h ?_ | refine Post.then_normal ?_ | refine Post.next ?_ | refine Post.block_other rfl ?_) | (first | (show TT _ _ _ _ _ _ _ _ _; first | refine TT.takea ?_ | refine TT.takeMa ?_ | refine TT.takeOffa ?_ | refine TT.gu ?_ | fail) | exact TTs.nil | refine TTs.cons ?_ ?_ | (show T1 _ _ _ _ _ _ _ _ _ _; first | refine T1.ua ?_ | (refine T1.rba ?_; intro _) | (refine T1.rra ?_; first | rintro _ _ ⟨rfl, rfl⟩ | rintro _ _ rfl) | refine T1.fa ?_ | refine T1.offa ?_ | refine T1.off0a ?_ | fail) | (show TC _ _ _ _ _ _ _ _ _ _; first | refine TC.goa ?_ | refine TC.fina ?_ | fail)) | ((show Tri _ _ _ (.cond _ _ _) _ _ _; first | refine Tri.cTa ?_ | refine Tri.cFa ?_ | refine Tri.condTa ?_ | refine Tri.condFa ?_ | refine Tri.condNTa ?_ | refine Tri.condNFa ?_ | fail))))
  refine T1.callv rfl rfl rfl rfl rfl (wholeR_ok ⟨bl2, gv2, gs2, z2⟩ (hr := RdIn.tl (h := h2)) k2) ?_
  rintro _ _ ⟨rfl, rfl⟩
  (repeat' (first | ((show TL _ _ _ _ (_ :: _) _ _ _; first | refine TL.fa ?_ | refine TL.ua ?_ | (refine TL.rba ?_; intro _) | (refine TL.rra ?_; first | rintro _ _ ⟨rfl, rfl⟩ | rintro _ _ rfl) | refine TL.offa ?_ | refine TL.off0a ?_ | refine TL.gu ?_ | fail)) | (first | refine Stp.h ?_ | refine Post.then_normal ?_ | refine Post.next ?_ | refine Post.block_other rfl ?_) | (first | (show TT _ _ _ _ _ _ _ _ _; first | refine TT.takea ?_ | refine TT.takeMa ?_ | refine TT.takeOffa ?_ | refine TT.gu ?_ | fail) | exact TTs.nil | refine TTs.cons ?_ ?_ | (show T1 _ _ _ _ _ _ _ _ _ _; first | refine T1.ua ?_ | (refine T1.rba ?_; intro _) | (refine T1.rra ?_; first | rintro _ _ ⟨rfl, rfl⟩ | rintro _ _ rfl) | refine T1.fa ?_ | refine T1.offa ?_ | refine T1.off0a ?_ | fail) | (show TC _ _ _ _ _ _ _ _ _ _; first | refine TC.goa ?_ | refine TC.fina ?_ | fail)) | ((show Tri _ _ _ (.cond _ _ _) _ _ _; first | refine Tri.cTa ?_ | refine Tri.cFa ?_ | refine Tri.condTa ?_ | refine Tri.condFa ?_ | refine Tri.condNTa ?_ | refine Tri.condNFa ?_ | fail))))
  rename_i b9
  ((try refine Post.ret_normal ?_); first | refine Post.r1a ?_ | refine Post.r2a ?_ | refine Post.r3a ?_ | refine Post.r0a ?_ | fail)
  refine ⟨_, ⟨_, rfl, rfl⟩, ?_⟩
  exact Ents.trans (Ents.clW (n := 4) (cap := 4) cP (⟨a, b, ⟨bl1, gv1, gs1, z1⟩, ⟨bl2, gv2, gs2, z2⟩⟩ : Two01).pairs rfl rfl rfl) (by (exact Ents.au))
end Go.Proofs.YtfbhlfhecmhihaaGreatDoor
