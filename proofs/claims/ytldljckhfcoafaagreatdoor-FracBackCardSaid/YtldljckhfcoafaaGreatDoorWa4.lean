/- Walks: texts are read. -/
import Derived.Test.YtldljckhfcoafaaGreatDoorWa3
namespace Go.Proofs.YtldljckhfcoafaaGreatDoor
open Go Go.Sx
variable {w0 : World} {As : List Ent}
theorem gather_ok {l : List UInt8} (hd : ∀ c ∈ l, isDig c = true) (h0 : 0 < l.length) (hl : l.length ≤ 1000) :
    CallsS Tryz.prog w0 149 [.string ⟨l.toArray⟩] As (MagR As (numOf l)) := by
  refine magR_of ?_
  refine CallsS.of_tri Tryz.func149 rfl Tryz.ntmps149 rfl ?_
  (repeat' (first | (show TL _ _ _ _ (_ :: _) _ _ _; first | refine TL.sa ?_ | (refine TL.na ?_; intro _)) | (first | refine Stp.h ?_ | refine Post.then_normal ?_ | refine Post.next ?_ | refine Post.block_other rfl ?_) | refine Tri.ca ?_))
  refine Tri.loop (ι := Value × List Nat × Nat) (fun s => 0 < s.2.2 ∧ s.2.2 ≤ l.length ∧ s.2.1 ++ grp (l.take s.2.2) = grp l ∧ s.2.1.length + s.2.2 ≤ l.length) (fun s => s.2.2)
    (fun s => [(0, .string ⟨l.toArray⟩), (3, s.1), (4, .int .i64 (s.2.2 : Int))]) (fun s => .ow (cN .u32) 66 s.1 s.2.1 :: As) (.slice none 0 0, [], l.length) ⟨h0, Nat.le_refl _, by simp, by simp⟩ (by (exact Sub.au)) (Ents.nilW _) ?_
  rintro ⟨mv, g, en⟩ ⟨hen0, hen, hg, hgl⟩
  simp only at hen0 hen hg hgl
  show Tri _ _ _ _ [(0, _), (3, mv), (4, .int .i64 (en : Int))] (.ow (cN .u32) 66 mv g :: As) _
  obtain ⟨st, hst⟩ : ∃ st : Nat, (if (en : Int) - 9 < 0 then 0 else (en : Int) - 9) = (st : Int) := ⟨en - 9, by split <;> omega⟩
  have hst2 : st = en - 9 := by split at hst <;> omega
  (repeat' (first | (show TL _ _ _ _ (_ :: _) _ _ _; first | refine TL.sa ?_ | (refine TL.na ?_; intro _)) | (first | refine Stp.h ?_ | refine Post.then_normal ?_ | refine Post.next ?_ | refine Post.block_other rfl ?_) | refine Tri.ca ?_))
  rw [hst]
  (repeat' (first | (show TL _ _ _ _ (_ :: _) _ _ _; first | refine TL.sa ?_ | (refine TL.na ?_; intro _)) | (first | refine Stp.h ?_ | refine Post.then_normal ?_ | refine Post.next ?_ | refine Post.block_other rfl ?_) | refine Tri.ca ?_))
  refine Tri.loop (ι := Nat) (fun i => st ≤ i ∧ i ≤ en) (fun i => en - i)
    (fun i => [(0, .string ⟨l.toArray⟩), (3, mv), (4, .int .i64 (en : Int)), (5, .int .i64 (st : Int)), (6, .int .u32 (numOf ((l.take i).drop st) : Nat)), (7, .int .i64 (i : Int))]) (fun _ => .ow (cN .u32) 66 mv g :: As) st ⟨Nat.le_refl _, by omega⟩ ?_ (by (exact Ents.au)) ?_
  · rw [show numOf ((l.take st).drop st) = 0 by rw [List.drop_eq_nil_of_le (by simp; omega)]; rfl]
    (exact Sub.au)
  · intro i ⟨hi1, hi2⟩
    (repeat' (first | (show TL _ _ _ _ (_ :: _) _ _ _; first | refine TL.sa ?_ | (refine TL.na ?_; intro _)) | (first | refine Stp.h ?_ | refine Post.then_normal ?_ | refine Post.next ?_ | refine Post.block_other rfl ?_) | refine Tri.ca ?_))
    ((show Tri _ _ _ (.cond _ _ _) _ _ _; first | refine Tri.condP rfl (fun hc => ?_) (fun hc => ?_) | refine Tri.condN rfl (fun hc => ?_) (fun hc => ?_)))
    · obtain ⟨c, hc'⟩ : ∃ c, l[i]? = some c := ⟨_, List.getElem?_eq_getElem (by omega)⟩
      have hcd := isDig_iff.1 (hd c (List.mem_of_getElem? hc'))
      have hi3 := (List.getElem?_eq_some_iff.1 hc').1
      have e1 : (l.take (i + 1)).drop st = (l.take i).drop st ++ [c] := by
        rw [List.take_succ_eq_append_getElem hi3, (List.getElem?_eq_some_iff.1 hc').2, List.drop_append_of_le_length (by simp; omega)]
      have e2 := numOf_lt (l := (l.take i).drop st) fun c hc => hd c (List.mem_of_mem_take (List.mem_of_mem_drop hc))
      have e3 : ((l.take i).drop st).length ≤ 8 := by simp; omega
      have e4 := Nat.pow_le_pow_right (n := 10) (by omega) e3
      (repeat' (first | (show TL _ _ _ _ (_ :: _) _ _ _; first | refine TL.sa ?_ | (refine TL.na ?_; intro _)) | (first | refine Stp.h ?_ | refine Post.then_normal ?_ | refine Post.next ?_ | refine Post.block_other rfl ?_) | refine Tri.ca ?_))
      refine Post.round (i + 1) ⟨by omega, by omega⟩ (by omega) ?_ (by (exact Ents.au))
      rw [show ((numOf ((l.take (i + 1)).drop st) : Nat) : Int) = (numOf ((l.take i).drop st) : Int) * 10 + ((c.toNat : Int) - 48) by rw [e1, numOf_snoc, dig]; omega]
      (exact Sub.au)
    · have hie : i = en := by omega
      subst hie
      have hgl2 : g.length ≤ 1000 := by omega
      (repeat' (first | (show TL _ _ _ _ (_ :: _) _ _ _; first | refine TL.sa ?_ | (refine TL.na ?_; intro _)) | (first | refine Stp.h ?_ | refine Post.then_normal ?_ | refine Post.next ?_ | refine Post.block_other rfl ?_) | refine Tri.ca ?_))
      ((show Tri _ _ _ (.cond _ _ _) _ _ _; first | refine Tri.condP rfl (fun hc => ?_) (fun hc => ?_) | refine Tri.condN rfl (fun hc => ?_) (fun hc => ?_)))
      · have hst0 : st = 0 := by omega
        subst hst0
        have e1 : g ++ [numOf (l.take i)] = grp l := by rw [← hg, grp_le (by simp; omega)]
        rw [List.drop_zero, e1]
        obtain ⟨k1, k2⟩ := grp_spec l.length (Nat.le_refl _) hd
        have k3 : (grp l).length ≤ 1001 := by rw [← e1]; simp; omega
        (repeat' (first | (show TL _ _ _ _ (_ :: _) _ _ _; first | refine TL.sa ?_ | (refine TL.na ?_; intro _)) | (first | refine Stp.h ?_ | refine Post.then_normal ?_ | refine Post.next ?_ | refine Post.block_other rfl ?_) | refine Tri.ca ?_))
        rename_i mv2
        refine TL.ents Ents.freeze ?_
        refine TL.call rfl rfl rfl (trim_ok k2 (by omega)) ?_
        rintro _ _ ⟨p, cap, rfl, rfl⟩
        rw [k1]
        (repeat' (first | (show TL _ _ _ _ (_ :: _) _ _ _; first | refine TL.sa ?_ | (refine TL.na ?_; intro _)) | (first | refine Stp.h ?_ | refine Post.then_normal ?_ | refine Post.next ?_ | refine Post.block_other rfl ?_) | refine Tri.ca ?_))
        (refine Post.ra ?_)
        exact ⟨_, rfl, by (exact Ents.au)⟩
      · have e2 : grp (l.take i) = numOf ((l.take i).drop (i - 9)) :: grp (l.take (i - 9)) := by
          rw [grp_gt (by simp; omega)]
          simp only [List.length_take, Nat.min_eq_left hen, List.take_take]
          rw [Nat.min_eq_left (by omega)]
        (repeat' (first | (show TL _ _ _ _ (_ :: _) _ _ _; first | refine TL.sa ?_ | (refine TL.na ?_; intro _)) | (first | refine Stp.h ?_ | refine Post.then_normal ?_ | refine Post.next ?_ | refine Post.block_other rfl ?_) | refine Tri.ca ?_))
        rename_i mv2
        refine Post.round (mv2, g ++ [numOf ((l.take i).drop st)], i - 9) ⟨by simp only; omega, by simp only; omega, by simp only; rw [← hg, e2, hst2]; simp, by simp; omega⟩ (by simp only; omega) ?_ (by (exact Ents.au))
        rw [show ((i - 9 : Nat) : Int) = (i : Int) - 9 by omega]
        (exact Sub.au)
/-- what comes back when a text is read -/
def ReadR (As : List Ent) (r : Option Int) (u : Value) (Bs : List Ent) : Prop := ∃ p cap, u = .tuple #[.agg #[.slice p (mag (r.getD 0).natAbs).length cap, .bool (decide (r.getD 0 < 0))], .bool r.isSome] ∧ Bs = .ft (rd (cN .u32) (.slice p (mag (r.getD 0).natAbs).length cap) (mag (r.getD 0).natAbs)) :: As
theorem readR_none : ∃ As', ReadR As none (.tuple #[.agg #[.slice none 0 0, .bool false], .bool false]) As' ∧ Ents As As' :=
  ⟨_, ⟨none, 0, by simp [mag_zero], rfl⟩, fun w0 w ⟨H, bs, g⟩ => ⟨H, bs, g.size, g.os, g.tape, g.output, g.fz, g.old, ⟨.inl ⟨⟨_, by simp [mag_zero]; rfl⟩, by simp [mag_zero]⟩, g.sat⟩, g.nd, g.ap⟩⟩
theorem read_ok {s : List UInt8} (hl : s.length ≤ 1000000000) : CallsS Tryz.prog w0 104 [.string ⟨s.toArray⟩] As (ReadR As (readW s)) := by
  refine CallsS.of_tri Tryz.func104 rfl Tryz.ntmps104 rfl ?_
  (repeat' (first | (show TL _ _ _ _ (_ :: _) _ _ _; first | refine TL.sa ?_ | (refine TL.na ?_; intro _)) | (first | refine Stp.h ?_ | refine Post.then_normal ?_ | refine Post.next ?_ | refine Post.block_other rfl ?_) | refine Tri.ca ?_))
  refine TL.call rfl rfl rfl cutPrefix_ok ?_
  rintro _ As ⟨rfl, rfl⟩
  obtain ⟨neg, hneg⟩ : ∃ neg, Lib.hasPrefix s [45] = neg := ⟨_, rfl⟩
  obtain ⟨l, hll⟩ : ∃ l, Lib.trimPrefix s [45] = l := ⟨_, rfl⟩
  rw [hneg, hll]
  have hle : l.length ≤ s.length := by rw [← hll, Lib.trimPrefix]; split <;> simp
  have hrw := readW_eq hneg hll
  have hbad : ∀ {e : Env} {Bs : List Ent}, ¬ (0 < l.length ∧ l.length ≤ 600 ∧ (∀ c ∈ l, isDig c = true) ∧ (l[0]? = some 48 → neg = false ∧ l.length = 1)) → Ents Bs As →
      ∃ As', ReadR As (readW s) (.tuple #[.agg #[.slice none 0 0, .bool false], .bool false]) As' ∧ Ents Bs As' := fun h hB => by
    rw [hrw, if_neg h]
    obtain ⟨As', h1, h2⟩ := readR_none (As := As)
    exact ⟨As', h1, Ents.trans hB h2⟩
  (repeat' (first | ((show TL _ _ _ _ (_ :: _) _ _ _; first | refine TL.fa ?_ | refine TL.ua ?_ | (refine TL.rba ?_; intro _) | (refine TL.rra ?_; first | rintro _ _ ⟨rfl, rfl⟩ | rintro _ _ rfl) | refine TL.offa ?_ | refine TL.off0a ?_ | refine TL.gu ?_ | fail)) | (first | refine Stp.h ?_ | refine Post.then_normal ?_ | refine Post.next ?_ | refine Post.block_other rfl ?_) | ((show Tri _ _ _ (.cond _ _ _) _ _ _; first | refine Tri.cTa ?_ | refine Tri.cFa ?_ | refine Tri.condTa ?_ | refine Tri.condFa ?_ | refine Tri.condNTa ?_ | refine Tri.condNFa ?_ | fail)) | (first | refine TL.gsplit rfl rfl (fun hgs => ?_) (fun hgs => ?_) | refine TL.gsplitN rfl rfl (fun hgs => ?_) (fun hgs => ?_) | refine TT.gsplit rfl rfl rfl (fun hgs => ?_) (fun hgs => ?_) | refine TT.gsplitN rfl rfl rfl (fun hgs => ?_) (fun hgs => ?_)) | ((show Tri _ _ _ (.cond _ _ _) _ _ _; first | refine Tri.condP rfl (fun hc => ?_) (fun hc => ?_) | refine Tri.condN rfl (fun hc => ?_) (fun hc => ?_)))))
  · (refine Post.ra ?_)
    exact hbad (e := []) (by omega) (by (exact Ents.au))
  · (refine Post.ra ?_)
    exact hbad (e := []) (by omega) (by (exact Ents.au))
  rename_i b1
  refine Tri.loop (ι := Nat) (fun k => k ≤ l.length ∧ ∀ (j : Nat) (c : UInt8), j < k → l[j]? = some c → isDig c = true) (fun k => l.length - k)
    (fun k => [(2, .pointer (some ⟨b1, 0, none⟩)), (4, .string ⟨l.toArray⟩), (5, .bool neg), (22, .int .i64 l.length), (23, .int .i64 k)]) (fun _ => .cl b1 [.slice none 0 0, .bool false] 145 :: As) 0 ⟨by omega, fun _ _ h => by omega⟩ (by (exact Sub.au)) (by (exact Ents.au)) ?_
  intro k ⟨hk, hf⟩
  (repeat' (first | (show TL _ _ _ _ (_ :: _) _ _ _; first | refine TL.sa ?_ | (refine TL.na ?_; intro _)) | (first | refine Stp.h ?_ | refine Post.then_normal ?_ | refine Post.next ?_ | refine Post.block_other rfl ?_) | refine Tri.ca ?_))
  ((show Tri _ _ _ (.cond _ _ _) _ _ _; first | refine Tri.condP rfl (fun hc => ?_) (fun hc => ?_) | refine Tri.condN rfl (fun hc => ?_) (fun hc => ?_)))
  · obtain ⟨c, hc'⟩ : ∃ c, l[k]? = some c := ⟨_, List.getElem?_eq_getElem (by omega)⟩
    (repeat' (first | ((show TL _ _ _ _ (_ :: _) _ _ _; first | refine TL.fa ?_ | refine TL.ua ?_ | (refine TL.rba ?_; intro _) | (refine TL.rra ?_; first | rintro _ _ ⟨rfl, rfl⟩ | rintro _ _ rfl) | refine TL.offa ?_ | refine TL.off0a ?_ | refine TL.gu ?_ | fail)) | (first | refine Stp.h ?_ | refine Post.then_normal ?_ | refine Post.next ?_ | refine Post.block_other rfl ?_) | ((show Tri _ _ _ (.cond _ _ _) _ _ _; first | refine Tri.cTa ?_ | refine Tri.cFa ?_ | refine Tri.condTa ?_ | refine Tri.condFa ?_ | refine Tri.condNTa ?_ | refine Tri.condNFa ?_ | fail)) | (first | refine TL.gsplit rfl rfl (fun hgs => ?_) (fun hgs => ?_) | refine TL.gsplitN rfl rfl (fun hgs => ?_) (fun hgs => ?_) | refine TT.gsplit rfl rfl rfl (fun hgs => ?_) (fun hgs => ?_) | refine TT.gsplitN rfl rfl rfl (fun hgs => ?_) (fun hgs => ?_)) | ((show Tri _ _ _ (.cond _ _ _) _ _ _; first | refine Tri.condP rfl (fun hc => ?_) (fun hc => ?_) | refine Tri.condN rfl (fun hc => ?_) (fun hc => ?_)))))
    · (refine Post.ra ?_)
      refine hbad (e := []) (fun h => ?_) (by (exact Ents.au))
      have := isDig_iff.1 (h.2.2.1 c (List.mem_of_getElem? hc'))
      omega
    · (refine Post.ra ?_)
      refine hbad (e := []) (fun h => ?_) (by (exact Ents.au))
      have := isDig_iff.1 (h.2.2.1 c (List.mem_of_getElem? hc'))
      omega
    · refine Post.round (k + 1) ⟨by omega, fun j y hj hy => ?_⟩ (by omega) (by (exact Sub.au)) (by (exact Ents.au))
      rcases Nat.lt_or_ge j k with h1 | h1
      · exact hf j y h1 hy
      · rw [show j = k from (by omega), hc'] at hy; cases hy; rw [isDig_iff]; omega
  · have hall : ∀ c ∈ l, isDig c = true := fun c hc => by
      obtain ⟨j, hj⟩ := List.mem_iff_getElem?.1 hc
      exact hf j c (by have := (List.getElem?_eq_some_iff.1 hj).1; omega) hj
    obtain ⟨c0, hc0⟩ : ∃ c, l[0]? = some c := ⟨_, List.getElem?_eq_getElem (by omega)⟩
    have h48 : l[0]? = some 48 ↔ c0.toNat = 48 := by
      rw [hc0]
      constructor
      · intro h; cases h; rfl
      · intro h; congr 1; apply UInt8.toNat_inj.1; rw [h]; rfl
    have hfin : (l[0]? = some 48 → neg = false ∧ l.length = 1) → ∃ z : Int, readW s = some z ∧ z.natAbs = numOf l ∧ decide (z < 0) = neg := fun h => by
      refine ⟨_, by rw [hrw, if_pos ⟨by omega, by omega, hall, h⟩], by split <;> omega, ?_⟩
      cases neg
      · simp
      · have := numOf_pos hall (by omega) fun h1 => by have := (h h1).1; cases this
        simp; omega
    cases neg
    all_goals
      (repeat' (first | ((show TL _ _ _ _ (_ :: _) _ _ _; first | refine TL.fa ?_ | refine TL.ua ?_ | (refine TL.rba ?_; intro _) | (refine TL.rra ?_; first | rintro _ _ ⟨rfl, rfl⟩ | rintro _ _ rfl) | refine TL.offa ?_ | refine TL.off0a ?_ | refine TL.gu ?_ | fail)) | (first | refine Stp.h ?_ | refine Post.then_normal ?_ | refine Post.next ?_ | refine Post.block_other rfl ?_) | (first | (show TT _ _ _ _ _ _ _ _ _; first | refine TT.takea ?_ | refine TT.takeMa ?_ | refine TT.takeOffa ?_ | refine TT.gu ?_ | fail) | exact TTs.nil | refine TTs.cons ?_ ?_ | (show T1 _ _ _ _ _ _ _ _ _ _; first | refine T1.ua ?_ | (refine T1.rba ?_; intro _) | (refine T1.rra ?_; first | rintro _ _ ⟨rfl, rfl⟩ | rintro _ _ rfl) | refine T1.fa ?_ | refine T1.offa ?_ | refine T1.off0a ?_ | fail) | (show TC _ _ _ _ _ _ _ _ _ _; first | refine TC.goa ?_ | refine TC.fina ?_ | fail)) | ((show Tri _ _ _ (.cond _ _ _) _ _ _; first | refine Tri.cTa ?_ | refine Tri.cFa ?_ | refine Tri.condTa ?_ | refine Tri.condFa ?_ | refine Tri.condNTa ?_ | refine Tri.condNFa ?_ | fail)) | (first | refine TL.gsplit rfl rfl (fun hgs => ?_) (fun hgs => ?_) | refine TL.gsplitN rfl rfl (fun hgs => ?_) (fun hgs => ?_) | refine TT.gsplit rfl rfl rfl (fun hgs => ?_) (fun hgs => ?_) | refine TT.gsplitN rfl rfl rfl (fun hgs => ?_) (fun hgs => ?_)) | ((show Tri _ _ _ (.cond _ _ _) _ _ _; first | refine Tri.condP rfl (fun hc => ?_) (fun hc => ?_) | refine Tri.condN rfl (fun hc => ?_) (fun hc => ?_)))))
      all_goals first
        | ((refine Post.ra ?_)
           refine hbad (e := []) (fun h => ?_) (by (exact Ents.au))
           have := h.2.2.2 (h48.2 (by omega))
           first | omega | (have h9 := this.1; cases h9))
        | (refine Exists.elim (hfin (fun h => by have := h48.1 h; first | omega | exact ⟨rfl, by omega⟩)) ?_
           clear hfin
           rintro z ⟨h1, h2, h3⟩
           refine TL.call rfl rfl rfl (gather_ok hall (by omega) (by omega)) ?_
           rintro _ _ ⟨p, cap, rfl, rfl⟩
           (repeat' (first | (show TL _ _ _ _ (_ :: _) _ _ _; first | refine TL.sa ?_ | (refine TL.na ?_; intro _)) | (first | refine Stp.h ?_ | refine Post.then_normal ?_ | refine Post.next ?_ | refine Post.block_other rfl ?_) | (show TT _ _ _ _ _ _ _ _ _; refine TT.sa ?_) | exact TTs.nil | refine TTs.cons ?_ ?_ | (show T1 _ _ _ _ _ _ _ _ _ _; first | refine T1.sa ?_ | (refine T1.na ?_; intro _)) | (show TC _ _ _ _ _ _ _ _ _ _; first | refine TC.goa ?_ | refine TC.fina ?_) | refine Tri.ca ?_))
           (refine Post.ra ?_)
           rw [h1]
           refine ⟨_, ⟨p, cap, ?_, rfl⟩, by simp only [Option.getD_some, h2]; (exact Ents.au)⟩
           simp only [Option.getD_some, h2, h3]
           rfl)
end Go.Proofs.YtldljckhfcoafaaGreatDoor
