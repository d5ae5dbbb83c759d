/- Walks: WholeRoots. -/
import Derived.Test.YtfbhlfhecmhihaaGreatDoorLa2
namespace Go.Sx
open Go
theorem D01.sm3 (d : D01) {k : Nat} (h : d.gs.length ≤ 3) (hz : d.zeros ≤ k) (hk : k ≤ 500) : Sm (9 + k) d.num := by
  unfold Sm
  rw [d.natAbs]
  have h1 := groupsD_lt d.gs 3
  rw [List.take_of_length_le h] at h1
  have h3 : (1000 : Nat) ^ 3 = 10 ^ 9 := by decide
  rw [h3] at h1
  unfold D01.size
  rw [List.take_of_length_le (by omega), Nat.mod_eq_of_lt (by omega)]
  exact mul_ten_lt h1 hz
section
variable {P : Program} {N : Ctx} {w0 : World} {e : Env} {As : List Ent} {ty : TypeId} {x : Operand} {α : Type} {c : Cod α} {xs : List α}
theorem CallsS.rdSlC {f : FuncId} {args : List Value} {K : Value → List Ent → Prop} (v : Value) [hr : RdIn As v α c xs] (h : ∀ p cap, v = .slice p xs.length cap → xs.length ≤ cap → CallsS P w0 f args As K) : CallsS P w0 f args As K := CallsS.mk fun w hs => by
  obtain ⟨p, cap, hv, hc⟩ := (hr.get w0 w hs).len
  exact (h p cap hv hc).out w hs
/-- v[:hi] of a slice that is written out: no memory is looked at -/
theorem ExF.sliceLit {t el : TypeId} {zv : Value} {n b' hi l cap : Nat} {p : Option Addr} {h : Option Operand} [UL P t (.slice el)] [TI P el zv n b'] (hx : ev e x = some (.slice p l cap)) (hh : evHi e l h hi) (h2 : hi ≤ l) (h3 : l ≤ cap) :
    ExF P N w0 (.slice t x none h none) ty e As (.slice p hi cap) := by
  unfold ExF
  intro a w ha hs d pos af g
  have := run_sl (P := P) (w := w) (t := t) (el := el) (zv := zv) (n := n) (b' := b') (p := p) (lo := 0) (.inl ⟨rfl, rfl⟩) (hh.run ha) (Nat.zero_le _) h2 h3
  rw [subV0] at this
  simp [execOp, ha.eval hx, run_slAt, this]
end
end Go.Sx
namespace Go.Proofs.YtfbhlfhecmhihaaGreatDoor
open Go Go.Sx
variable {w0 : World} {As : List Ent}
set_option maxRecDepth 100000 in
theorem wholeRoots_ok (ht : Tab w0) (he : ErrR w0) (d1 d2 : D01) (n : Int) [h1 : RdIn As d1.gv Nat (cN .u16) d1.gs] [h2 : RdIn As d2.gv Nat (cN .u16) d2.gs] (k1 : d1.ok) (k2 : d2.ok) (hn : 0 ≤ n ∧ n ≤ 255) :
    CallsS Tryz.prog w0 8 [.agg d1.cells.toArray, .agg d2.cells.toArray, .int .u8 n] As fun u _ => u = .bool true := by
  obtain ⟨bl1, gv1, gs1, z1⟩ := d1
  obtain ⟨bl2, gv2, gs2, z2⟩ := d2
  obtain ⟨hg1, hgl1, hz1⟩ := k1
  obtain ⟨hg2, hgl2, hz2⟩ := k2
  simp only at hg1 hgl1 hz1 hg2 hgl2 hz2
  replace h1 : RdIn As gv1 Nat (cN .u16) gs1 := h1
  replace h2 : RdIn As gv2 Nat (cN .u16) gs2 := h2
  refine CallsS.rdSlC gv1 fun p1 c1 o1 hc1 => CallsS.rdSlC gv2 fun p2 c2 o2 hc2 => ?_
  subst o1 o2
  refine CallsS.of_tri Tryz.func8 rfl Tryz.ntmps8 rfl ?_
  show Tri _ _ _ _ (env0 0 [.agg #[.bool bl1, .slice p1 gs1.length c1, .int .u16 (z1 : Int)], .agg #[.bool bl2, .slice p2 gs2.length c2, .int .u16 (z2 : Int)], .int .u8 n]) _ _
  obtain ⟨g, hg⟩ : ∃ g : Nat, 1 + n % 12 = (g : Int) := ⟨(1 + n % 12).toNat, by omega⟩
  have hg12 : 1 ≤ g ∧ g ≤ 12 := by omega
  have hq : (150 : Int) / (g : Int) = ((150 / g : Nat) : Int) := by rw [Int.natCast_ediv]; rfl
  have hq9 : 150 / g ≤ 150 := Nat.div_le_self _ _
  have hq0 : 0 ≤ (150 : Int) / (g : Int) ∧ (150 : Int) / (g : Int) ≤ 150 := by
    obtain ⟨E, hE⟩ : ∃ E, E = 150 / g := ⟨_, rfl⟩
    rw [hq, ← hE]; omega
  have hqm : 150 / g * g ≤ 150 := Nat.div_mul_le_self _ _
  (repeat' (first | ((show TL _ _ _ _ (_ :: _) _ _ _; first | refine TL.fa ?_ | refine TL.ua ?_ | (refine TL.rba ?_; intro _) | (refine TL.rra ?_; first | rintro _ _ ⟨rfl, rfl⟩ | rintro _ _ rfl) | refine TL.offa ?_ | refine TL.off0a ?_ | refine TL.gu ?_ | fail)) | (first | refine Stp.h ?_ | refine Post.then_normal ?_ | refine Post.next ?_ | refine Post.block_other rfl ?_) | ((show Tri _ _ _ (.cond _ _ _) _ _ _; first | refine Tri.cTa ?_ | refine Tri.cFa ?_ | refine Tri.condTa ?_ | refine Tri.condFa ?_ | refine Tri.condNTa ?_ | refine Tri.condNFa ?_ | fail))))
  refine TL.call rfl rfl rfl (works01_ok ht he) ?_
  rintro _ _ ⟨rfl, rfl⟩
  (repeat' (first | ((show TL _ _ _ _ (_ :: _) _ _ _; first | refine TL.fa ?_ | refine TL.ua ?_ | (refine TL.rba ?_; intro _) | (refine TL.rra ?_; first | rintro _ _ ⟨rfl, rfl⟩ | rintro _ _ rfl) | refine TL.offa ?_ | refine TL.off0a ?_ | refine TL.gu ?_ | fail)) | (first | refine Stp.h ?_ | refine Post.then_normal ?_ | refine Post.next ?_ | refine Post.block_other rfl ?_) | ((show Tri _ _ _ (.cond _ _ _) _ _ _; first | refine Tri.cTa ?_ | refine Tri.cFa ?_ | refine Tri.condTa ?_ | refine Tri.condFa ?_ | refine Tri.condNTa ?_ | refine Tri.condNFa ?_ | fail))))
  rw [hg]
  (repeat' (first | ((show TL _ _ _ _ (_ :: _) _ _ _; first | refine TL.fa ?_ | refine TL.ua ?_ | (refine TL.rba ?_; intro _) | (refine TL.rra ?_; first | rintro _ _ ⟨rfl, rfl⟩ | rintro _ _ rfl) | refine TL.offa ?_ | refine TL.off0a ?_ | refine TL.gu ?_ | fail)) | (first | refine Stp.h ?_ | refine Post.then_normal ?_ | refine Post.next ?_ | refine Post.block_other rfl ?_) | ((show Tri _ _ _ (.cond _ _ _) _ _ _; first | refine Tri.cTa ?_ | refine Tri.cFa ?_ | refine Tri.condTa ?_ | refine Tri.condFa ?_ | refine Tri.condNTa ?_ | refine Tri.condNFa ?_ | fail))))
  rename_i b3 b4
  refine Tri.dw [] [(1, .c b3), (8, .c b4)] (.take 0 (.take 1 (.take 2 (.take 3 (.take 4 (.take 5 (.take 6 (.take 7 (.take 8 (.take 9 (.take 10 (.all [(11, .take 12 (.all [(13, .done)]))])))))))))))) ?_
  (repeat' (first | ((show TL _ _ _ _ (_ :: _) _ _ _; first | refine TL.fa ?_ | refine TL.ua ?_ | (refine TL.rba ?_; intro _) | (refine TL.rra ?_; first | rintro _ _ ⟨rfl, rfl⟩ | rintro _ _ rfl) | refine TL.offa ?_ | refine TL.off0a ?_ | refine TL.gu ?_ | fail)) | (first | refine Stp.h ?_ | refine Post.then_normal ?_ | refine Post.next ?_ | refine Post.block_other rfl ?_) | (first | (show TT _ _ _ _ _ _ _ _ _; first | refine TT.takea ?_ | refine TT.takeMa ?_ | refine TT.takeOffa ?_ | refine TT.gu ?_ | fail) | exact TTs.nil | refine TTs.cons ?_ ?_ | (show T1 _ _ _ _ _ _ _ _ _ _; first | refine T1.ua ?_ | (refine T1.rba ?_; intro _) | (refine T1.rra ?_; first | rintro _ _ ⟨rfl, rfl⟩ | rintro _ _ rfl) | refine T1.fa ?_ | refine T1.offa ?_ | refine T1.off0a ?_ | fail) | (show TC _ _ _ _ _ _ _ _ _ _; first | refine TC.goa ?_ | refine TC.fina ?_ | fail)) | ((show Tri _ _ _ (.cond _ _ _) _ _ _; first | refine Tri.cTa ?_ | refine Tri.cFa ?_ | refine Tri.condTa ?_ | refine Tri.condFa ?_ | refine Tri.condNTa ?_ | refine Tri.condNFa ?_ | fail))))
  obtain ⟨E, hE⟩ : ∃ E, E = 150 / g := ⟨_, rfl⟩
  have hze : (z1 : Int) % (1 + 150 / (g : Int)) = ((z1 % (1 + E) : Nat) : Int) := by rw [hq, ← hE, Int.natCast_emod, Int.natCast_add]; rfl
  have hz2e : (z2 : Int) % 8 = ((z2 % 8 : Nat) : Int) := by omega
  rw [hze, hz2e]
  rw [← hE] at hq9 hqm
  have hzl : z1 % (1 + E) ≤ E := by have := Nat.mod_lt z1 (show 0 < 1 + E by omega); omega
  have m1 : (if (3 : Int) < (gs1.length : Int) then 3 else (gs1.length : Int)) = ((min gs1.length 3 : Nat) : Int) := by split <;> omega
  have m2 : (if (3 : Int) < (gs2.length : Int) then 3 else (gs2.length : Int)) = ((min gs2.length 3 : Nat) : Int) := by split <;> omega
  refine Tri.dw [] [(1, .c b3), (3, .c b3), (8, .c b4), (10, .c b4)] (.take 0 (.take 1 (.take 2 (.take 3 (.take 4 (.take 5 (.take 6 (.take 7 (.take 8 (.take 9 (.take 10 (.take 11 (.take 12 (.take 13 (.take 14 (.all [(15, .take 16 (.all [(17, .done)]))])))))))))))))))) ?_
  (repeat' (first | ((show TL _ _ _ _ (_ :: _) _ _ _; first | refine TL.fa ?_ | refine TL.ua ?_ | (refine TL.rba ?_; intro _) | (refine TL.rra ?_; first | rintro _ _ ⟨rfl, rfl⟩ | rintro _ _ rfl) | refine TL.offa ?_ | refine TL.off0a ?_ | refine TL.gu ?_ | fail)) | (first | refine Stp.h ?_ | refine Post.then_normal ?_ | refine Post.next ?_ | refine Post.block_other rfl ?_) | (first | (show TT _ _ _ _ _ _ _ _ _; first | refine TT.takea ?_ | refine TT.takeMa ?_ | refine TT.takeOffa ?_ | refine TT.gu ?_ | fail) | exact TTs.nil | refine TTs.cons ?_ ?_ | (show T1 _ _ _ _ _ _ _ _ _ _; first | refine T1.ua ?_ | (refine T1.rba ?_; intro _) | (refine T1.rra ?_; first | rintro _ _ ⟨rfl, rfl⟩ | rintro _ _ rfl) | refine T1.fa ?_ | refine T1.offa ?_ | refine T1.off0a ?_ | fail) | (show TC _ _ _ _ _ _ _ _ _ _; first | refine TC.goa ?_ | refine TC.fina ?_ | fail)) | ((show Tri _ _ _ (.cond _ _ _) _ _ _; first | refine Tri.cTa ?_ | refine Tri.cFa ?_ | refine Tri.condTa ?_ | refine Tri.condFa ?_ | refine Tri.condNTa ?_ | refine Tri.condNFa ?_ | fail))))
  rw [m1]
  refine TT.take rfl rfl rfl (ExF.sliceLit (hi := min gs1.length 3) rfl (evHi.so rfl) (by omega) hc1) ?_
  (repeat' (first | ((show TL _ _ _ _ (_ :: _) _ _ _; first | refine TL.fa ?_ | refine TL.ua ?_ | (refine TL.rba ?_; intro _) | (refine TL.rra ?_; first | rintro _ _ ⟨rfl, rfl⟩ | rintro _ _ rfl) | refine TL.offa ?_ | refine TL.off0a ?_ | refine TL.gu ?_ | fail)) | (first | refine Stp.h ?_ | refine Post.then_normal ?_ | refine Post.next ?_ | refine Post.block_other rfl ?_) | (first | (show TT _ _ _ _ _ _ _ _ _; first | refine TT.takea ?_ | refine TT.takeMa ?_ | refine TT.takeOffa ?_ | refine TT.gu ?_ | fail) | exact TTs.nil | refine TTs.cons ?_ ?_ | (show T1 _ _ _ _ _ _ _ _ _ _; first | refine T1.ua ?_ | (refine T1.rba ?_; intro _) | (refine T1.rra ?_; first | rintro _ _ ⟨rfl, rfl⟩ | rintro _ _ rfl) | refine T1.fa ?_ | refine T1.offa ?_ | refine T1.off0a ?_ | fail) | (show TC _ _ _ _ _ _ _ _ _ _; first | refine TC.goa ?_ | refine TC.fina ?_ | fail)) | ((show Tri _ _ _ (.cond _ _ _) _ _ _; first | refine Tri.cTa ?_ | refine Tri.cFa ?_ | refine Tri.condTa ?_ | refine Tri.condFa ?_ | refine Tri.condNTa ?_ | refine Tri.condNFa ?_ | fail))))
  rw [m2]
  refine TT.take rfl rfl rfl (ExF.sliceLit (hi := min gs2.length 3) rfl (evHi.so rfl) (by omega) hc2) ?_
  (repeat' (first | ((show TL _ _ _ _ (_ :: _) _ _ _; first | refine TL.fa ?_ | refine TL.ua ?_ | (refine TL.rba ?_; intro _) | (refine TL.rra ?_; first | rintro _ _ ⟨rfl, rfl⟩ | rintro _ _ rfl) | refine TL.offa ?_ | refine TL.off0a ?_ | refine TL.gu ?_ | fail)) | (first | refine Stp.h ?_ | refine Post.then_normal ?_ | refine Post.next ?_ | refine Post.block_other rfl ?_) | (first | (show TT _ _ _ _ _ _ _ _ _; first | refine TT.takea ?_ | refine TT.takeMa ?_ | refine TT.takeOffa ?_ | refine TT.gu ?_ | fail) | exact TTs.nil | refine TTs.cons ?_ ?_ | (show T1 _ _ _ _ _ _ _ _ _ _; first | refine T1.ua ?_ | (refine T1.rba ?_; intro _) | (refine T1.rra ?_; first | rintro _ _ ⟨rfl, rfl⟩ | rintro _ _ rfl) | refine T1.fa ?_ | refine T1.offa ?_ | refine T1.off0a ?_ | fail) | (show TC _ _ _ _ _ _ _ _ _ _; first | refine TC.goa ?_ | refine TC.fina ?_ | fail)) | ((show Tri _ _ _ (.cond _ _ _) _ _ _; first | refine Tri.cTa ?_ | refine Tri.cFa ?_ | refine Tri.condTa ?_ | refine Tri.condFa ?_ | refine Tri.condNTa ?_ | refine Tri.condNFa ?_ | fail))))
  haveI r1 : RdIn As (.slice p1 (min gs1.length 3) c1) Nat (cN .u16) (gs1.take (min gs1.length 3)) := RdIn.take (h := h1) (by omega)
  haveI r2 : RdIn As (.slice p2 (min gs2.length 3) c2) Nat (cN .u16) (gs2.take (min gs2.length 3)) := RdIn.take (h := h2) (by omega)
  have S1 : Sm (9 + E) (⟨bl1, .slice p1 (min gs1.length 3) c1, gs1.take (min gs1.length 3), z1 % (1 + E)⟩ : D01).num := D01.sm3 _ (by simp only [List.length_take]; omega) hzl (by omega)
  have S2 : Sm (9 + 7) (⟨bl2, .slice p2 (min gs2.length 3) c2, gs2.take (min gs2.length 3), z2 % 8⟩ : D01).num := D01.sm3 _ (by simp only [List.length_take]; omega) (by simp only; omega) (by omega)
  haveI g1 : Dg (⟨bl1, .slice p1 (min gs1.length 3) c1, gs1.take (min gs1.length 3), z1 % (1 + E)⟩ : D01).num := S1.dg (by omega)
  haveI g2 : Dg (⟨bl2, .slice p2 (min gs2.length 3) c2, gs2.take (min gs2.length 3), z2 % 8⟩ : D01).num := S2.dg (by decide)
  haveI g3 := S1.abs.dg (by omega)
  haveI g4 := S2.abs.dg (by decide)
  refine TL.callv rfl rfl rfl rfl (wholeR_ok (⟨bl1, .slice p1 (min gs1.length 3) c1, gs1.take (min gs1.length 3), z1 % (1 + E)⟩ : D01) (hr := RdIn.tl (h := RdIn.tl (h := r1))) ⟨fun y hy => hg1 y (List.mem_of_mem_take hy), by simp only [List.length_take]; omega, by simp only; omega⟩) ?_
  rintro _ _ ⟨rfl, rfl⟩
  (repeat' (first | ((show TL _ _ _ _ (_ :: _) _ _ _; first | refine TL.fa ?_ | refine TL.ua ?_ | (refine TL.rba ?_; intro _) | (refine TL.rra ?_; first | rintro _ _ ⟨rfl, rfl⟩ | rintro _ _ rfl) | refine TL.offa ?_ | refine TL.off0a ?_ | refine TL.gu ?_ | fail)) | (first | refine Stp.h ?_ | refine Post.then_normal ?_ | refine Post.next ?_ | refine Post.block_other rfl ?_) | (first | (show TT _ _ _ _ _ _ _ _ _; first | refine TT.takea ?_ | refine TT.takeMa ?_ | refine TT.takeOffa ?_ | refine TT.gu ?_ | fail) | exact TTs.nil | refine TTs.cons ?_ ?_ | (show T1 _ _ _ _ _ _ _ _ _ _; first | refine T1.ua ?_ | (refine T1.rba ?_; intro _) | (refine T1.rra ?_; first | rintro _ _ ⟨rfl, rfl⟩ | rintro _ _ rfl) | refine T1.fa ?_ | refine T1.offa ?_ | refine T1.off0a ?_ | fail) | (show TC _ _ _ _ _ _ _ _ _ _; first | refine TC.goa ?_ | refine TC.fina ?_ | fail)) | ((show Tri _ _ _ (.cond _ _ _) _ _ _; first | refine Tri.cTa ?_ | refine Tri.cFa ?_ | refine Tri.condTa ?_ | refine Tri.condFa ?_ | refine Tri.condNTa ?_ | refine Tri.condNFa ?_ | fail))))
  refine TL.call rfl rfl rfl (absN_ok ht (x := (⟨bl1, .slice p1 (min gs1.length 3) c1, gs1.take (min gs1.length 3), z1 % (1 + E)⟩ : D01).num)) ?_
  rintro _ _ ⟨rfl, rfl⟩
  (repeat' (first | ((show TL _ _ _ _ (_ :: _) _ _ _; first | refine TL.fa ?_ | refine TL.ua ?_ | (refine TL.rba ?_; intro _) | (refine TL.rra ?_; first | rintro _ _ ⟨rfl, rfl⟩ | rintro _ _ rfl) | refine TL.offa ?_ | refine TL.off0a ?_ | refine TL.gu ?_ | fail)) | (first | refine Stp.h ?_ | refine Post.then_normal ?_ | refine Post.next ?_ | refine Post.block_other rfl ?_) | (first | (show TT _ _ _ _ _ _ _ _ _; first | refine TT.takea ?_ | refine TT.takeMa ?_ | refine TT.takeOffa ?_ | refine TT.gu ?_ | fail) | exact TTs.nil | refine TTs.cons ?_ ?_ | (show T1 _ _ _ _ _ _ _ _ _ _; first | refine T1.ua ?_ | (refine T1.rba ?_; intro _) | (refine T1.rra ?_; first | rintro _ _ ⟨rfl, rfl⟩ | rintro _ _ rfl) | refine T1.fa ?_ | refine T1.offa ?_ | refine T1.off0a ?_ | fail) | (show TC _ _ _ _ _ _ _ _ _ _; first | refine TC.goa ?_ | refine TC.fina ?_ | fail)) | ((show Tri _ _ _ (.cond _ _ _) _ _ _; first | refine Tri.cTa ?_ | refine Tri.cFa ?_ | refine Tri.condTa ?_ | refine Tri.condFa ?_ | refine Tri.condNTa ?_ | refine Tri.condNFa ?_ | fail))))
  refine TL.callv rfl rfl rfl rfl (wholeR_ok (⟨bl2, .slice p2 (min gs2.length 3) c2, gs2.take (min gs2.length 3), z2 % 8⟩ : D01) (hr := RdIn.tl (h := RdIn.tl (h := r2))) ⟨fun y hy => hg2 y (List.mem_of_mem_take hy), by simp only [List.length_take]; omega, by simp only; omega⟩) ?_
  rintro _ _ ⟨rfl, rfl⟩
  (repeat' (first | ((show TL _ _ _ _ (_ :: _) _ _ _; first | refine TL.fa ?_ | refine TL.ua ?_ | (refine TL.rba ?_; intro _) | (refine TL.rra ?_; first | rintro _ _ ⟨rfl, rfl⟩ | rintro _ _ rfl) | refine TL.offa ?_ | refine TL.off0a ?_ | refine TL.gu ?_ | fail)) | (first | refine Stp.h ?_ | refine Post.then_normal ?_ | refine Post.next ?_ | refine Post.block_other rfl ?_) | (first | (show TT _ _ _ _ _ _ _ _ _; first | refine TT.takea ?_ | refine TT.takeMa ?_ | refine TT.takeOffa ?_ | refine TT.gu ?_ | fail) | exact TTs.nil | refine TTs.cons ?_ ?_ | (show T1 _ _ _ _ _ _ _ _ _ _; first | refine T1.ua ?_ | (refine T1.rba ?_; intro _) | (refine T1.rra ?_; first | rintro _ _ ⟨rfl, rfl⟩ | rintro _ _ rfl) | refine T1.fa ?_ | refine T1.offa ?_ | refine T1.off0a ?_ | fail) | (show TC _ _ _ _ _ _ _ _ _ _; first | refine TC.goa ?_ | refine TC.fina ?_ | fail)) | ((show Tri _ _ _ (.cond _ _ _) _ _ _; first | refine Tri.cTa ?_ | refine Tri.cFa ?_ | refine Tri.condTa ?_ | refine Tri.condFa ?_ | refine Tri.condNTa ?_ | refine Tri.condNFa ?_ | fail))))
  refine TL.call rfl rfl rfl (absN_ok ht (x := (⟨bl2, .slice p2 (min gs2.length 3) c2, gs2.take (min gs2.length 3), z2 % 8⟩ : D01).num)) ?_
  rintro _ _ ⟨rfl, rfl⟩
  have S3 := S1.abs
  have S4 := S2.abs
  generalize (⟨bl1, .slice p1 (min gs1.length 3) c1, gs1.take (min gs1.length 3), z1 % (1 + E)⟩ : D01).num.natAbs = a at S3 g3 ⊢
  generalize (⟨bl2, .slice p2 (min gs2.length 3) c2, gs2.take (min gs2.length 3), z2 % 8⟩ : D01).num.natAbs = b at S4 g4 ⊢
  have hna : ((a : Nat) : Int).natAbs = a := Int.natAbs_natCast a
  have S5 : Sm (9 + E) ((rootN a g : Nat) : Int) := by have := S3.root (k := g) (by omega); rwa [hna] at this
  obtain ⟨r, hr⟩ : ∃ r, r = rootN a g := ⟨_, rfl⟩
  have hr1 : r ^ g ≤ a := by rw [hr]; exact rootN_pow (by omega)
  have hr2 : a < (r + 1) ^ g := by rw [hr]; exact rootN_lt (by omega)
  rw [← hr] at S5
  haveI g5 := S5.dg (by omega)
  have S6 : Sm (9 + E + 1) ((r : Int) + 1) := S5.add (Sm.mono (i := 1) (by unfold Sm; decide) (by omega))
  haveI g6 := S6.dg (by omega)
  have hEg : (9 + E + 1) * g ≤ 270 := by rw [Nat.add_mul, Nat.add_mul]; omega
  have S7 := S6.pow g
  haveI g7 := S7.dg (by omega)
  have hlow : ((r : Int) ^ g).natAbs = r ^ g := by rw [Int.natAbs_pow, Int.natAbs_natCast]
  have S8 : Sm (9 + E) ((r : Int) ^ g) := by unfold Sm at S3 ⊢; rw [hna] at S3; rw [hlow]; omega
  haveI g8 := S8.dg (by omega)
  have S9 := S4.pow g
  haveI g9 := S9.dg (by omega)
  have hbn : ((b : Int) ^ g).natAbs = b ^ g := by rw [Int.natAbs_pow, Int.natAbs_natCast]
  have hback : rootN (b ^ g) g = b := rootN_eq (by omega) (Nat.le_refl _) (Nat.pow_lt_pow_left (by omega) (by omega))
  have S10 := S3.mul S4
  haveI g10 := S10.dg (by omega)
  haveI g11 := (S10.pow 2).dg (by omega)
  haveI g12 := (S3.pow 2).dg (by omega)
  haveI g13 := (S4.pow 2).dg (by omega)
  haveI g14 := ((S3.pow 2).mul (S4.pow 2)).dg (by omega)
  haveI g15 : Dg (rootN ((a : Nat) : Int).natAbs g : Nat) := by rw [hna, ← hr]; exact g5
  haveI g16 : Dg (rootN ((b : Int) ^ g).natAbs g : Nat) := by rw [hbn, hback]; exact g4
  have hone : binW (· + ·) (textI (r : Int)) [49] = (textI ((r : Int) + 1), 0) := by
    unfold binW
    rw [g5.read, (by decide +kernel : readW [49] = some 1)]
    exact g6.out
  (repeat' (first | ((show TL _ _ _ _ (_ :: _) _ _ _; first | refine TL.fa ?_ | refine TL.ua ?_ | (refine TL.rba ?_; intro _) | (refine TL.rra ?_; first | rintro _ _ ⟨rfl, rfl⟩ | rintro _ _ rfl) | refine TL.offa ?_ | refine TL.off0a ?_ | refine TL.gu ?_ | fail)) | (first | refine Stp.h ?_ | refine Post.then_normal ?_ | refine Post.next ?_ | refine Post.block_other rfl ?_) | ((show Tri _ _ _ (.cond _ _ _) _ _ _; first | refine Tri.cTa ?_ | refine Tri.cFa ?_ | refine Tri.condTa ?_ | refine Tri.condFa ?_ | refine Tri.condNTa ?_ | refine Tri.condNFa ?_ | fail))))
  refine TL.call rfl rfl rfl (rootN_ok ht (x := ((a : Nat) : Int)) (k := g) (by omega) (by omega) (by omega)) ?_
  rintro _ _ ⟨rfl, rfl⟩
  rw [hna, ← hr]
  (repeat' (first | ((show TL _ _ _ _ (_ :: _) _ _ _; first | refine TL.fa ?_ | refine TL.ua ?_ | (refine TL.rba ?_; intro _) | (refine TL.rra ?_; first | rintro _ _ ⟨rfl, rfl⟩ | rintro _ _ rfl) | refine TL.offa ?_ | refine TL.off0a ?_ | refine TL.gu ?_ | fail)) | (first | refine Stp.h ?_ | refine Post.then_normal ?_ | refine Post.next ?_ | refine Post.block_other rfl ?_) | ((show Tri _ _ _ (.cond _ _ _) _ _ _; first | refine Tri.cTa ?_ | refine Tri.cFa ?_ | refine Tri.condTa ?_ | refine Tri.condFa ?_ | refine Tri.condNTa ?_ | refine Tri.condNFa ?_ | fail))))
  refine TL.callv rfl rfl rfl rfl (add_okB ht (s := textI (r : Int)) (t := [49]) g5.len (by decide)) ?_
  rintro _ _ ⟨rfl, rfl⟩
  rw [hone]
  (repeat' (first | ((show TL _ _ _ _ (_ :: _) _ _ _; first | refine TL.fa ?_ | refine TL.ua ?_ | (refine TL.rba ?_; intro _) | (refine TL.rra ?_; first | rintro _ _ ⟨rfl, rfl⟩ | rintro _ _ rfl) | refine TL.offa ?_ | refine TL.off0a ?_ | refine TL.gu ?_ | fail)) | (first | refine Stp.h ?_ | refine Post.then_normal ?_ | refine Post.next ?_ | refine Post.block_other rfl ?_) | ((show Tri _ _ _ (.cond _ _ _) _ _ _; first | refine Tri.cTa ?_ | refine Tri.cFa ?_ | refine Tri.condTa ?_ | refine Tri.condFa ?_ | refine Tri.condNTa ?_ | refine Tri.condNFa ?_ | fail))))
  refine TL.call rfl rfl rfl (powN_ok ht (x := (r : Int)) (n := g) (by omega)) ?_
  rintro _ _ ⟨rfl, rfl⟩
  (repeat' (first | ((show TL _ _ _ _ (_ :: _) _ _ _; first | refine TL.fa ?_ | refine TL.ua ?_ | (refine TL.rba ?_; intro _) | (refine TL.rra ?_; first | rintro _ _ ⟨rfl, rfl⟩ | rintro _ _ rfl) | refine TL.offa ?_ | refine TL.off0a ?_ | refine TL.gu ?_ | fail)) | (first | refine Stp.h ?_ | refine Post.then_normal ?_ | refine Post.next ?_ | refine Post.block_other rfl ?_) | ((show Tri _ _ _ (.cond _ _ _) _ _ _; first | refine Tri.cTa ?_ | refine Tri.cFa ?_ | refine Tri.condTa ?_ | refine Tri.condFa ?_ | refine Tri.condNTa ?_ | refine Tri.condNFa ?_ | fail))))
  refine TL.call rfl rfl rfl (powN_ok ht (x := (r : Int) + 1) (n := g) (by omega)) ?_
  rintro _ _ ⟨rfl, rfl⟩
  (repeat' (first | ((show TL _ _ _ _ (_ :: _) _ _ _; first | refine TL.fa ?_ | refine TL.ua ?_ | (refine TL.rba ?_; intro _) | (refine TL.rra ?_; first | rintro _ _ ⟨rfl, rfl⟩ | rintro _ _ rfl) | refine TL.offa ?_ | refine TL.off0a ?_ | refine TL.gu ?_ | fail)) | (first | refine Stp.h ?_ | refine Post.then_normal ?_ | refine Post.next ?_ | refine Post.block_other rfl ?_) | ((show Tri _ _ _ (.cond _ _ _) _ _ _; first | refine Tri.cTa ?_ | refine Tri.cFa ?_ | refine Tri.condTa ?_ | refine Tri.condFa ?_ | refine Tri.condNTa ?_ | refine Tri.condNFa ?_ | fail))))
  refine TL.call rfl rfl rfl (cmpN_ok (x := (r : Int) ^ g) (y := (a : Int))) ?_
  rintro _ _ ⟨rfl, rfl⟩
  (repeat' (first | ((show TL _ _ _ _ (_ :: _) _ _ _; first | refine TL.fa ?_ | refine TL.ua ?_ | (refine TL.rba ?_; intro _) | (refine TL.rra ?_; first | rintro _ _ ⟨rfl, rfl⟩ | rintro _ _ rfl) | refine TL.offa ?_ | refine TL.off0a ?_ | refine TL.gu ?_ | fail)) | (first | refine Stp.h ?_ | refine Post.then_normal ?_ | refine Post.next ?_ | refine Post.block_other rfl ?_) | ((show Tri _ _ _ (.cond _ _ _) _ _ _; first | refine Tri.cTa ?_ | refine Tri.cFa ?_ | refine Tri.condTa ?_ | refine Tri.condFa ?_ | refine Tri.condNTa ?_ | refine Tri.condNFa ?_ | fail))))
  refine TL.call rfl rfl rfl (cmpN_ok (x := ((r : Int) + 1) ^ g) (y := (a : Int))) ?_
  rintro _ _ ⟨rfl, rfl⟩
  have q1 : ((r : Int)) ^ g ≤ (a : Int) := by rw [← Int.natCast_pow]; exact Int.ofNat_le.2 hr1
  have q2 : (a : Int) < ((r : Int) + 1) ^ g := by
    rw [show ((r : Int) + 1) = ((r + 1 : Nat) : Int) by omega, ← Int.natCast_pow]; exact Int.ofNat_lt.2 hr2
  have q3 : ¬ 0 < signI ((r : Int) ^ g - a) := by unfold signI; split <;> (try split) <;> omega
  have q4 : ¬ signI (((r : Int) + 1) ^ g - a) ≤ 0 := by unfold signI; rw [if_neg (by omega), if_neg (by omega)]; omega
  (repeat' (first | ((show TL _ _ _ _ (_ :: _) _ _ _; first | refine TL.fa ?_ | refine TL.ua ?_ | (refine TL.rba ?_; intro _) | (refine TL.rra ?_; first | rintro _ _ ⟨rfl, rfl⟩ | rintro _ _ rfl) | refine TL.offa ?_ | refine TL.off0a ?_ | refine TL.gu ?_ | fail)) | (first | refine Stp.h ?_ | refine Post.then_normal ?_ | refine Post.next ?_ | refine Post.block_other rfl ?_) | ((show Tri _ _ _ (.cond _ _ _) _ _ _; first | refine Tri.cTa ?_ | refine Tri.cFa ?_ | refine Tri.condTa ?_ | refine Tri.condFa ?_ | refine Tri.condNTa ?_ | refine Tri.condNFa ?_ | fail))))
  refine TL.call rfl rfl rfl (powN_ok ht (x := (b : Int)) (n := g) (by omega)) ?_
  rintro _ _ ⟨rfl, rfl⟩
  (repeat' (first | ((show TL _ _ _ _ (_ :: _) _ _ _; first | refine TL.fa ?_ | refine TL.ua ?_ | (refine TL.rba ?_; intro _) | (refine TL.rra ?_; first | rintro _ _ ⟨rfl, rfl⟩ | rintro _ _ rfl) | refine TL.offa ?_ | refine TL.off0a ?_ | refine TL.gu ?_ | fail)) | (first | refine Stp.h ?_ | refine Post.then_normal ?_ | refine Post.next ?_ | refine Post.block_other rfl ?_) | ((show Tri _ _ _ (.cond _ _ _) _ _ _; first | refine Tri.cTa ?_ | refine Tri.cFa ?_ | refine Tri.condTa ?_ | refine Tri.condFa ?_ | refine Tri.condNTa ?_ | refine Tri.condNFa ?_ | fail))))
  refine TL.call rfl rfl rfl (rootN_ok ht (x := (b : Int) ^ g) (k := g) (Int.pow_nonneg (by omega)) (by omega) (by omega)) ?_
  rintro _ _ ⟨rfl, rfl⟩
  rw [hbn, hback]
  (repeat' (first | ((show TL _ _ _ _ (_ :: _) _ _ _; first | refine TL.fa ?_ | refine TL.ua ?_ | (refine TL.rba ?_; intro _) | (refine TL.rra ?_; first | rintro _ _ ⟨rfl, rfl⟩ | rintro _ _ rfl) | refine TL.offa ?_ | refine TL.off0a ?_ | refine TL.gu ?_ | fail)) | (first | refine Stp.h ?_ | refine Post.then_normal ?_ | refine Post.next ?_ | refine Post.block_other rfl ?_) | ((show Tri _ _ _ (.cond _ _ _) _ _ _; first | refine Tri.cTa ?_ | refine Tri.cFa ?_ | refine Tri.condTa ?_ | refine Tri.condFa ?_ | refine Tri.condNTa ?_ | refine Tri.condNFa ?_ | fail))))
  refine TL.call rfl rfl rfl (mulN_ok ht (x := (a : Int)) (y := (b : Int))) ?_
  rintro _ _ ⟨rfl, rfl⟩
  (repeat' (first | ((show TL _ _ _ _ (_ :: _) _ _ _; first | refine TL.fa ?_ | refine TL.ua ?_ | (refine TL.rba ?_; intro _) | (refine TL.rra ?_; first | rintro _ _ ⟨rfl, rfl⟩ | rintro _ _ rfl) | refine TL.offa ?_ | refine TL.off0a ?_ | refine TL.gu ?_ | fail)) | (first | refine Stp.h ?_ | refine Post.then_normal ?_ | refine Post.next ?_ | refine Post.block_other rfl ?_) | ((show Tri _ _ _ (.cond _ _ _) _ _ _; first | refine Tri.cTa ?_ | refine Tri.cFa ?_ | refine Tri.condTa ?_ | refine Tri.condFa ?_ | refine Tri.condNTa ?_ | refine Tri.condNFa ?_ | fail))))
  refine TL.callv rfl rfl rfl rfl (powN_ok ht (x := (a : Int) * b) (n := 2) (by omega)) ?_
  rintro _ _ ⟨rfl, rfl⟩
  (repeat' (first | ((show TL _ _ _ _ (_ :: _) _ _ _; first | refine TL.fa ?_ | refine TL.ua ?_ | (refine TL.rba ?_; intro _) | (refine TL.rra ?_; first | rintro _ _ ⟨rfl, rfl⟩ | rintro _ _ rfl) | refine TL.offa ?_ | refine TL.off0a ?_ | refine TL.gu ?_ | fail)) | (first | refine Stp.h ?_ | refine Post.then_normal ?_ | refine Post.next ?_ | refine Post.block_other rfl ?_) | ((show Tri _ _ _ (.cond _ _ _) _ _ _; first | refine Tri.cTa ?_ | refine Tri.cFa ?_ | refine Tri.condTa ?_ | refine Tri.condFa ?_ | refine Tri.condNTa ?_ | refine Tri.condNFa ?_ | fail))))
  refine TL.callv rfl rfl rfl rfl (powN_ok ht (x := (a : Int)) (n := 2) (by omega)) ?_
  rintro _ _ ⟨rfl, rfl⟩
  (repeat' (first | ((show TL _ _ _ _ (_ :: _) _ _ _; first | refine TL.fa ?_ | refine TL.ua ?_ | (refine TL.rba ?_; intro _) | (refine TL.rra ?_; first | rintro _ _ ⟨rfl, rfl⟩ | rintro _ _ rfl) | refine TL.offa ?_ | refine TL.off0a ?_ | refine TL.gu ?_ | fail)) | (first | refine Stp.h ?_ | refine Post.then_normal ?_ | refine Post.next ?_ | refine Post.block_other rfl ?_) | ((show Tri _ _ _ (.cond _ _ _) _ _ _; first | refine Tri.cTa ?_ | refine Tri.cFa ?_ | refine Tri.condTa ?_ | refine Tri.condFa ?_ | refine Tri.condNTa ?_ | refine Tri.condNFa ?_ | fail))))
  refine TL.callv rfl rfl rfl rfl (powN_ok ht (x := (b : Int)) (n := 2) (by omega)) ?_
  rintro _ _ ⟨rfl, rfl⟩
  (repeat' (first | ((show TL _ _ _ _ (_ :: _) _ _ _; first | refine TL.fa ?_ | refine TL.ua ?_ | (refine TL.rba ?_; intro _) | (refine TL.rra ?_; first | rintro _ _ ⟨rfl, rfl⟩ | rintro _ _ rfl) | refine TL.offa ?_ | refine TL.off0a ?_ | refine TL.gu ?_ | fail)) | (first | refine Stp.h ?_ | refine Post.then_normal ?_ | refine Post.next ?_ | refine Post.block_other rfl ?_) | ((show Tri _ _ _ (.cond _ _ _) _ _ _; first | refine Tri.cTa ?_ | refine Tri.cFa ?_ | refine Tri.condTa ?_ | refine Tri.condFa ?_ | refine Tri.condNTa ?_ | refine Tri.condNFa ?_ | fail))))
  refine TL.callv rfl rfl rfl rfl (mulN_ok ht (x := (a : Int) ^ 2) (y := (b : Int) ^ 2)) ?_
  rintro _ _ ⟨rfl, rfl⟩
  have q5 : textI (b : Int) = textI (b : Int) := rfl
  rw [Int.mul_pow]
  (repeat' (first | ((show TL _ _ _ _ (_ :: _) _ _ _; first | refine TL.fa ?_ | refine TL.ua ?_ | (refine TL.rba ?_; intro _) | (refine TL.rra ?_; first | rintro _ _ ⟨rfl, rfl⟩ | rintro _ _ rfl) | refine TL.offa ?_ | refine TL.off0a ?_ | refine TL.gu ?_ | fail)) | (first | refine Stp.h ?_ | refine Post.then_normal ?_ | refine Post.next ?_ | refine Post.block_other rfl ?_) | ((show Tri _ _ _ (.cond _ _ _) _ _ _; first | refine Tri.cTa ?_ | refine Tri.cFa ?_ | refine Tri.condTa ?_ | refine Tri.condFa ?_ | refine Tri.condNTa ?_ | refine Tri.condNFa ?_ | fail))))
  ((try refine Post.ret_normal ?_); first | refine Post.r1a ?_ | refine Post.r2a ?_ | refine Post.r3a ?_ | refine Post.r0a ?_ | fail)
  exact ⟨_, by simp, Ents.refl _⟩
end Go.Proofs.YtfbhlfhecmhihaaGreatDoor
