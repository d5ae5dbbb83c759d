/- Walks: the reference of the chapter on whole numbers: texts are read; Of, Add. -/
import Derived.Test.YtfbhlfhecmhihaaGreatDoorVa3
import Derived.Test.YtfbhlfhecmhihaaGreatDoorWa7
namespace Go.Sx
/-- where the digits of a text begin -/
def fromW (s : List UInt8) : Nat := if s[0]? = some 45 then 1 else 0
def RightW (s : List UInt8) : Prop := 0 < (s.drop (fromW s)).length ∧ (s.drop (fromW s)).length ≤ 600 ∧ (∀ c ∈ s.drop (fromW s), isDig c = true) ∧ ((s.drop (fromW s))[0]? = some 48 → s.length = 1)
theorem readW_some (s : List UInt8) : (readW s).isSome = true ↔ RightW s := by
  have hp : Lib.hasPrefix s [45] = decide (s[0]? = some 45) := by
    cases s with
    | nil => rfl
    | cons c r => rw [hasPrefix_minus]; simp
  unfold readW RightW fromW
  rw [hp]
  by_cases h : s[0]? = some 45
  · simp only [h, decide_true, if_true]
    split
    · rename_i hc
      simp only [Option.isSome_some, true_iff]
      exact ⟨hc.1, hc.2.1, hc.2.2.1, fun h5 => absurd h5 hc.2.2.2⟩
    · rename_i hc
      simp only [Option.isSome_none, Bool.false_eq_true, false_iff]
      rintro ⟨h1, h2, h3, h4⟩
      exact hc ⟨h1, h2, h3, fun h5 => by have := h4 h5; simp at h1; omega⟩
  · simp only [h, decide_false, Bool.false_eq_true, if_false, List.drop_zero]
    split
    · rename_i hc; simpa using hc
    · rename_i hc; simpa using hc
end Go.Sx
namespace Go.Proofs.YtfbhlfhecmhihaaGreatDoor
open Go Go.Sx
variable {w0 : World} {As : List Ent}
/-- a valid text is read -/
theorem inR_ok {s : List UInt8} {z : Int} (h : readW s = some z) : CallsS Tryz.prog w0 54 [.string ⟨s.toArray⟩] As (PlainR As z) := by
  obtain ⟨f, l, hf1, rfl, hl0, hl6, hd, hneg, hpos⟩ := readW_split h
  have hsl : s.length ≤ 601 := by simp at hl6; omega
  have hs0 : 0 < s.length := by simp at hl0; omega
  obtain ⟨c0, hc0⟩ : ∃ c, s[0]? = some c := ⟨_, List.getElem?_eq_getElem hs0⟩
  refine CallsS.of_tri Tryz.func54 rfl Tryz.ntmps54 rfl ?_
  (repeat' (first | ((show TL _ _ _ _ (_ :: _) _ _ _; first | refine TL.fa ?_ | refine TL.ua ?_ | (refine TL.rba ?_; intro _) | (refine TL.rra ?_; first | rintro _ _ ⟨rfl, rfl⟩ | rintro _ _ rfl) | refine TL.offa ?_ | refine TL.off0a ?_ | refine TL.gu ?_ | fail)) | (first | refine Stp.h ?_ | refine Post.then_normal ?_ | refine Post.next ?_ | refine Post.block_other rfl ?_) | ((show Tri _ _ _ (.cond _ _ _) _ _ _; first | refine Tri.cTa ?_ | refine Tri.cFa ?_ | refine Tri.condTa ?_ | refine Tri.condFa ?_ | refine Tri.condNTa ?_ | refine Tri.condNFa ?_ | fail))))
  rename_i b2
  refine Tri.mid (fun e' As' => e' = [(0, .string ⟨s.toArray⟩), (2, .pointer (some ⟨b2, 0, none⟩)), (3, .int .i64 (f : Int))] ∧ As' = .cl b2 [.bool false, .slice none 0 0] 68 :: As) ?_ ?_
  · rcases (by omega : f = 0 ∨ f = 1) with rfl | rfl
    · have h45 : ¬ (c0.toNat : Int) = 45 := fun h => (hpos rfl).1 (by rw [hc0]; congr 1; apply UInt8.toNat_inj.1; show c0.toNat = 45; omega)
      refine Tri.condF rfl h45 ?_
      (repeat' (first | ((show TL _ _ _ _ (_ :: _) _ _ _; first | refine TL.fa ?_ | refine TL.ua ?_ | (refine TL.rba ?_; intro _) | (refine TL.rra ?_; first | rintro _ _ ⟨rfl, rfl⟩ | rintro _ _ rfl) | refine TL.offa ?_ | refine TL.off0a ?_ | refine TL.gu ?_ | fail)) | (first | refine Stp.h ?_ | refine Post.then_normal ?_ | refine Post.next ?_ | refine Post.block_other rfl ?_) | ((show Tri _ _ _ (.cond _ _ _) _ _ _; first | refine Tri.cTa ?_ | refine Tri.cFa ?_ | refine Tri.condTa ?_ | refine Tri.condFa ?_ | refine Tri.condNTa ?_ | refine Tri.condNFa ?_ | fail))))
      exact Post.cut _ _ ⟨rfl, rfl⟩ (by (exact Sub.au)) (by (exact Ents.au))
    · have h45 : (c0.toNat : Int) = 45 := by
        have := (hneg rfl).1
        rw [hc0] at this
        cases this
        rfl
      refine Tri.condT rfl h45 ?_
      (repeat' (first | ((show TL _ _ _ _ (_ :: _) _ _ _; first | refine TL.fa ?_ | refine TL.ua ?_ | (refine TL.rba ?_; intro _) | (refine TL.rra ?_; first | rintro _ _ ⟨rfl, rfl⟩ | rintro _ _ rfl) | refine TL.offa ?_ | refine TL.off0a ?_ | refine TL.gu ?_ | fail)) | (first | refine Stp.h ?_ | refine Post.then_normal ?_ | refine Post.next ?_ | refine Post.block_other rfl ?_) | ((show Tri _ _ _ (.cond _ _ _) _ _ _; first | refine Tri.cTa ?_ | refine Tri.cFa ?_ | refine Tri.condTa ?_ | refine Tri.condFa ?_ | refine Tri.condNTa ?_ | refine Tri.condNFa ?_ | fail))))
      exact Post.cut _ _ ⟨rfl, rfl⟩ (by (exact Sub.au)) (by (exact Ents.au))
  rintro _ _ ⟨rfl, rfl⟩
  generalize hl : s.drop f = l at hl0 hl6 hd hneg hpos
  have hget : ∀ i : Nat, s[f + i]? = l[i]? := fun i => by rw [← hl, List.getElem?_drop]
  have hll : s.length = f + l.length := by rw [← hl, List.length_drop]; have := congrArg List.length hl; simp at this; omega
  (repeat' (first | ((show TL _ _ _ _ (_ :: _) _ _ _; first | refine TL.fa ?_ | refine TL.ua ?_ | (refine TL.rba ?_; intro _) | (refine TL.rra ?_; first | rintro _ _ ⟨rfl, rfl⟩ | rintro _ _ rfl) | refine TL.offa ?_ | refine TL.off0a ?_ | refine TL.gu ?_ | fail)) | (first | refine Stp.h ?_ | refine Post.then_normal ?_ | refine Post.next ?_ | refine Post.block_other rfl ?_) | ((show Tri _ _ _ (.cond _ _ _) _ _ _; first | refine Tri.cTa ?_ | refine Tri.cFa ?_ | refine Tri.condTa ?_ | refine Tri.condFa ?_ | refine Tri.condNTa ?_ | refine Tri.condNFa ?_ | fail))))
  refine Tri.ents (Ents.nilW (T := 3) (cN .i64)) ?_
  refine Tri.loop (ι := Int × Value × List Nat × Nat) (fun s => ((0 < s.2.2.2 ∧ s.1 = (f : Int) + s.2.2.2 ∧ s.2.2.1 ++ grpQ (l.take s.2.2.2) = grpQ l) ∨ (s.2.2.2 = 0 ∧ s.1 ≤ f ∧ -10 ≤ s.1 ∧ s.2.2.1 = grpQ l)) ∧ s.2.2.2 ≤ l.length ∧ s.2.2.1.length + s.2.2.2 ≤ l.length) (fun s => s.2.2.2)
    (fun x => [(0, .string ⟨s.toArray⟩), (2, .pointer (some ⟨b2, 0, none⟩)), (3, .int .i64 (f : Int)), (4, x.2.1), (5, .int .i64 x.1)]) (fun x => .ow (cN .i64) 3 x.2.1 x.2.2.1 :: .cl b2 [.bool false, .slice none 0 0] 68 :: As)
    ((f : Int) + l.length, .slice none 0 0, [], l.length) ⟨.inl ⟨hl0, rfl, by simp⟩, Nat.le_refl _, by simp⟩ (by rw [show ((f : Int) + l.length) = (s.length : Int) by omega]; (exact Sub.au)) (by (exact Ents.au)) ?_
  rintro ⟨e, sv, g, en⟩ ⟨hst, hen, hgl⟩
  simp only at hst hen hgl
  show Tri _ _ _ _ [(0, _), (2, _), (3, _), (4, sv), (5, .int .i64 e)] (.ow (cN .i64) 3 sv g :: _) _
  obtain ⟨k1, k2⟩ := grpQ_spec l.length (Nat.le_refl _) hd
  rcases hst with ⟨hen0, rfl, hg⟩ | ⟨rfl, hef, hem, rfl⟩
  · obtain ⟨st, hst⟩ : ∃ st : Nat, st = en - 4 := ⟨_, rfl⟩
    have hmx : (if ((f : Int) + en - 4) < (f : Int) then (f : Int) else (f : Int) + en - 4) = ((f + st : Nat) : Int) := by split <;> omega
    (repeat' (first | ((show TL _ _ _ _ (_ :: _) _ _ _; first | refine TL.fa ?_ | refine TL.ua ?_ | (refine TL.rba ?_; intro _) | (refine TL.rra ?_; first | rintro _ _ ⟨rfl, rfl⟩ | rintro _ _ rfl) | refine TL.offa ?_ | refine TL.off0a ?_ | refine TL.gu ?_ | fail)) | (first | refine Stp.h ?_ | refine Post.then_normal ?_ | refine Post.next ?_ | refine Post.block_other rfl ?_) | ((show Tri _ _ _ (.cond _ _ _) _ _ _; first | refine Tri.cTa ?_ | refine Tri.cFa ?_ | refine Tri.condTa ?_ | refine Tri.condFa ?_ | refine Tri.condNTa ?_ | refine Tri.condNFa ?_ | fail))))
    rw [hmx]
    refine Tri.loop (ι := Nat) (fun i => st ≤ i ∧ i ≤ en) (fun i => en - i)
      (fun i => [(0, .string ⟨s.toArray⟩), (2, .pointer (some ⟨b2, 0, none⟩)), (3, .int .i64 (f : Int)), (4, sv), (5, .int .i64 ((f : Int) + en)), (6, .int .i64 (numOf ((l.take i).drop st) : Nat)), (7, .int .i64 ((f + i : Nat) : Int))]) (fun _ => .ow (cN .i64) 3 sv g :: .cl b2 [.bool false, .slice none 0 0] 68 :: As) st ⟨Nat.le_refl _, by omega⟩ ?_ (by (exact Ents.au)) ?_
    · rw [show numOf ((l.take st).drop st) = 0 by rw [List.drop_eq_nil_of_le (by simp; omega)]; rfl]
      (exact Sub.au)
    · intro i ⟨hi1, hi2⟩
      (repeat' (first | ((show TL _ _ _ _ (_ :: _) _ _ _; first | refine TL.fa ?_ | refine TL.ua ?_ | (refine TL.rba ?_; intro _) | (refine TL.rra ?_; first | rintro _ _ ⟨rfl, rfl⟩ | rintro _ _ rfl) | refine TL.offa ?_ | refine TL.off0a ?_ | refine TL.gu ?_ | fail)) | (first | refine Stp.h ?_ | refine Post.then_normal ?_ | refine Post.next ?_ | refine Post.block_other rfl ?_) | ((show Tri _ _ _ (.cond _ _ _) _ _ _; first | refine Tri.cTa ?_ | refine Tri.cFa ?_ | refine Tri.condTa ?_ | refine Tri.condFa ?_ | refine Tri.condNTa ?_ | refine Tri.condNFa ?_ | fail))))
      ((show Tri _ _ _ (.cond _ _ _) _ _ _; first | refine Tri.condP rfl (fun hc => ?_) (fun hc => ?_) | refine Tri.condN rfl (fun hc => ?_) (fun hc => ?_)))
      · obtain ⟨c, hc'⟩ : ∃ c, l[i]? = some c := ⟨_, List.getElem?_eq_getElem (by omega)⟩
        have hsc : s[f + i]? = some c := by rw [hget, hc']
        have hcd := isDig_iff.1 (hd c (List.mem_of_getElem? hc'))
        have hi3 := (List.getElem?_eq_some_iff.1 hc').1
        have e1 : (l.take (i + 1)).drop st = (l.take i).drop st ++ [c] := by
          rw [List.take_succ_eq_append_getElem hi3, (List.getElem?_eq_some_iff.1 hc').2, List.drop_append_of_le_length (by simp; omega)]
        have e2 := numOf_lt (l := (l.take i).drop st) fun c hc => hd c (List.mem_of_mem_take (List.mem_of_mem_drop hc))
        have e3 : ((l.take i).drop st).length ≤ 4 := by simp; omega
        have e4 := Nat.pow_le_pow_right (n := 10) (by omega) e3
        (repeat' (first | ((show TL _ _ _ _ (_ :: _) _ _ _; first | refine TL.fa ?_ | refine TL.ua ?_ | (refine TL.rba ?_; intro _) | (refine TL.rra ?_; first | rintro _ _ ⟨rfl, rfl⟩ | rintro _ _ rfl) | refine TL.offa ?_ | refine TL.off0a ?_ | refine TL.gu ?_ | fail)) | (first | refine Stp.h ?_ | refine Post.then_normal ?_ | refine Post.next ?_ | refine Post.block_other rfl ?_) | ((show Tri _ _ _ (.cond _ _ _) _ _ _; first | refine Tri.cTa ?_ | refine Tri.cFa ?_ | refine Tri.condTa ?_ | refine Tri.condFa ?_ | refine Tri.condNTa ?_ | refine Tri.condNFa ?_ | fail))))
        refine Post.round (i + 1) ⟨by omega, by omega⟩ (by omega) ?_ (by (exact Ents.au))
        rw [show ((numOf ((l.take (i + 1)).drop st) : Nat) : Int) = (numOf ((l.take i).drop st) : Int) * 10 + ((c.toNat : Int) - 48) by rw [e1, numOf_snoc, dig]; omega]
        (exact Sub.au)
      · have hie : i = en := by omega
        subst hie
        (repeat' (first | ((show TL _ _ _ _ (_ :: _) _ _ _; first | refine TL.fa ?_ | refine TL.ua ?_ | (refine TL.rba ?_; intro _) | (refine TL.rra ?_; first | rintro _ _ ⟨rfl, rfl⟩ | rintro _ _ rfl) | refine TL.offa ?_ | refine TL.off0a ?_ | refine TL.gu ?_ | fail)) | (first | refine Stp.h ?_ | refine Post.then_normal ?_ | refine Post.next ?_ | refine Post.block_other rfl ?_) | ((show Tri _ _ _ (.cond _ _ _) _ _ _; first | refine Tri.cTa ?_ | refine Tri.cFa ?_ | refine Tri.condTa ?_ | refine Tri.condFa ?_ | refine Tri.condNTa ?_ | refine Tri.condNFa ?_ | fail))))
        rename_i v9
        by_cases h4 : i ≤ 4
        · have hst0 : st = 0 := by omega
          subst hst0
          have e1 : g ++ [numOf (l.take i)] = grpQ l := by rw [← hg, grpQ_le (by simp; omega)]
          rw [List.drop_zero]
          exact Post.round ((f : Int) + i - 4, v9, g ++ [numOf (l.take i)], 0) ⟨.inr ⟨rfl, by simp only; omega, by simp only; omega, e1⟩, by simp only; omega, by simp; omega⟩ (by simp only; omega) (by (exact Sub.au)) (by (exact Ents.au))
        · have e2 : grpQ (l.take i) = numOf ((l.take i).drop (i - 4)) :: grpQ (l.take (i - 4)) := by
            rw [grpQ_gt (by simp; omega)]
            simp only [List.length_take, Nat.min_eq_left hen, List.take_take]
            rw [Nat.min_eq_left (by omega)]
          exact Post.round ((f : Int) + i - 4, v9, g ++ [numOf ((l.take i).drop st)], i - 4) ⟨.inl ⟨by simp only; omega, by simp only; omega, by simp only; rw [← hg, e2, hst]; simp⟩, by simp only; omega, by simp; omega⟩ (by simp only; omega) (by (exact Sub.au)) (by (exact Ents.au))
  · have hz1 : z.natAbs = valQ (grpQ l) := by
      rw [k1]
      rcases (by omega : f = 0 ∨ f = 1) with rfl | rfl
      · rw [(hpos rfl).2]; omega
      · rw [(hneg rfl).2.1]; omega
    have hz2 : decide (z < 0) = (decide ((f : Int) = 1) && decide (valQ (grpQ l) ≠ 0)) := by
      rw [k1, Bool.eq_iff_iff]
      simp only [Bool.and_eq_true, decide_eq_true_eq]
      rcases (by omega : f = 0 ∨ f = 1) with rfl | rfl
      · rw [(hpos rfl).2]; omega
      · have := hneg rfl
        rw [this.2.1]; omega
    (repeat' (first | ((show TL _ _ _ _ (_ :: _) _ _ _; first | refine TL.fa ?_ | refine TL.ua ?_ | (refine TL.rba ?_; intro _) | (refine TL.rra ?_; first | rintro _ _ ⟨rfl, rfl⟩ | rintro _ _ rfl) | refine TL.offa ?_ | refine TL.off0a ?_ | refine TL.gu ?_ | fail)) | (first | refine Stp.h ?_ | refine Post.then_normal ?_ | refine Post.next ?_ | refine Post.block_other rfl ?_) | ((show Tri _ _ _ (.cond _ _ _) _ _ _; first | refine Tri.cTa ?_ | refine Tri.cFa ?_ | refine Tri.condTa ?_ | refine Tri.condFa ?_ | refine Tri.condNTa ?_ | refine Tri.condNFa ?_ | fail))))
    refine TL.call rfl rfl rfl (CallsS.ents Ents.freeze (made_ok (z := z) k2 (by omega) hz1 hz2)) ?_
    rintro _ _ ⟨p, cap, rfl, rfl⟩
    (repeat' (first | ((show TL _ _ _ _ (_ :: _) _ _ _; first | refine TL.fa ?_ | refine TL.ua ?_ | (refine TL.rba ?_; intro _) | (refine TL.rra ?_; first | rintro _ _ ⟨rfl, rfl⟩ | rintro _ _ rfl) | refine TL.offa ?_ | refine TL.off0a ?_ | refine TL.gu ?_ | fail)) | (first | refine Stp.h ?_ | refine Post.then_normal ?_ | refine Post.next ?_ | refine Post.block_other rfl ?_) | ((show Tri _ _ _ (.cond _ _ _) _ _ _; first | refine Tri.cTa ?_ | refine Tri.cFa ?_ | refine Tri.condTa ?_ | refine Tri.condFa ?_ | refine Tri.condNTa ?_ | refine Tri.condNFa ?_ | fail))))
    ((try refine Post.ret_normal ?_); first | refine Post.r1a ?_ | refine Post.r2a ?_ | refine Post.r3a ?_ | refine Post.r0a ?_ | fail)
    exact ⟨_, ⟨p, cap, rfl, rfl⟩, by (exact Ents.au)⟩
theorem rightR_ok {s : List UInt8} (hs : s.length ≤ 1000000000) : CallsS Tryz.prog w0 52 [.string ⟨s.toArray⟩] As fun u Bs => u = .bool (readW s).isSome ∧ Bs = As := by
  have hyes : RightW s → (readW s).isSome = true := (readW_some s).2
  have hno : ¬ RightW s → (readW s).isSome = false := fun h => by
    rw [← Bool.not_eq_true]; exact fun h1 => h ((readW_some s).1 h1)
  refine CallsS.of_tri Tryz.func52 rfl Tryz.ntmps52 rfl ?_
  obtain ⟨f, hf⟩ : ∃ f, f = fromW s := ⟨_, rfl⟩
  obtain ⟨l, hl⟩ : ∃ l, l = s.drop f := ⟨_, rfl⟩
  have hf1 : f ≤ 1 := by rw [hf, fromW]; split <;> omega
  have hget : ∀ i : Nat, s[f + i]? = l[i]? := fun i => by rw [hl, List.getElem?_drop]
  have hll : l.length = s.length - f := by rw [hl, List.length_drop]
  have hR : RightW s ↔ 0 < l.length ∧ l.length ≤ 600 ∧ (∀ c ∈ l, isDig c = true) ∧ (l[0]? = some 48 → s.length = 1) := by
    rw [hl, hf]; rfl
  have hfs : f = 1 → 0 < s.length := fun h => by
    rw [hf, fromW] at h
    split at h
    · rename_i h1
      have := (List.getElem?_eq_some_iff.1 h1).1
      omega
    · omega
  iterate 11 (first | ((show TL _ _ _ _ (_ :: _) _ _ _; first | refine TL.fa ?_ | refine TL.ua ?_ | (refine TL.rba ?_; intro _) | (refine TL.rra ?_; first | rintro _ _ ⟨rfl, rfl⟩ | rintro _ _ rfl) | refine TL.offa ?_ | refine TL.off0a ?_ | refine TL.gu ?_ | fail)) | (first | refine Stp.h ?_ | refine Post.then_normal ?_ | refine Post.next ?_ | refine Post.block_other rfl ?_))
  refine Tri.mid (fun e' As' => e' = [(0, .string ⟨s.toArray⟩), (3, .int .i64 (f : Int))] ∧ As' = As) ?_ ?_
  · by_cases h0 : s.length = 0
    · have hf0 : f = 0 := by omega
      subst hf0
      (repeat' (first | ((show TL _ _ _ _ (_ :: _) _ _ _; first | refine TL.fa ?_ | refine TL.ua ?_ | (refine TL.rba ?_; intro _) | (refine TL.rra ?_; first | rintro _ _ ⟨rfl, rfl⟩ | rintro _ _ rfl) | refine TL.offa ?_ | refine TL.off0a ?_ | refine TL.gu ?_ | fail)) | (first | refine Stp.h ?_ | refine Post.then_normal ?_ | refine Post.next ?_ | refine Post.block_other rfl ?_) | (first | (show TT _ _ _ _ _ _ _ _ _; first | refine TT.takea ?_ | refine TT.takeMa ?_ | refine TT.takeOffa ?_ | refine TT.gu ?_ | fail) | exact TTs.nil | refine TTs.cons ?_ ?_ | (show T1 _ _ _ _ _ _ _ _ _ _; first | refine T1.ua ?_ | (refine T1.rba ?_; intro _) | (refine T1.rra ?_; first | rintro _ _ ⟨rfl, rfl⟩ | rintro _ _ rfl) | refine T1.fa ?_ | refine T1.offa ?_ | refine T1.off0a ?_ | fail) | (show TC _ _ _ _ _ _ _ _ _ _; first | refine TC.goa ?_ | refine TC.fina ?_ | fail)) | ((show Tri _ _ _ (.cond _ _ _) _ _ _; first | refine Tri.cTa ?_ | refine Tri.cFa ?_ | refine Tri.condTa ?_ | refine Tri.condFa ?_ | refine Tri.condNTa ?_ | refine Tri.condNFa ?_ | fail))))
      exact Post.cut _ _ ⟨rfl, rfl⟩ (by (exact Sub.au)) (by (exact Ents.au))
    · obtain ⟨c0, hc0⟩ : ∃ c, s[0]? = some c := ⟨_, List.getElem?_eq_getElem (by omega)⟩
      by_cases h45 : (c0.toNat : Int) = 45
      · have hf0 : f = 1 := by
          rw [hf, fromW, if_pos]
          rw [hc0]; congr 1; apply UInt8.toNat_inj.1; show c0.toNat = 45; omega
        subst hf0
        (repeat' (first | ((show TL _ _ _ _ (_ :: _) _ _ _; first | refine TL.fa ?_ | refine TL.ua ?_ | (refine TL.rba ?_; intro _) | (refine TL.rra ?_; first | rintro _ _ ⟨rfl, rfl⟩ | rintro _ _ rfl) | refine TL.offa ?_ | refine TL.off0a ?_ | refine TL.gu ?_ | fail)) | (first | refine Stp.h ?_ | refine Post.then_normal ?_ | refine Post.next ?_ | refine Post.block_other rfl ?_) | (first | (show TT _ _ _ _ _ _ _ _ _; first | refine TT.takea ?_ | refine TT.takeMa ?_ | refine TT.takeOffa ?_ | refine TT.gu ?_ | fail) | exact TTs.nil | refine TTs.cons ?_ ?_ | (show T1 _ _ _ _ _ _ _ _ _ _; first | refine T1.ua ?_ | (refine T1.rba ?_; intro _) | (refine T1.rra ?_; first | rintro _ _ ⟨rfl, rfl⟩ | rintro _ _ rfl) | refine T1.fa ?_ | refine T1.offa ?_ | refine T1.off0a ?_ | fail) | (show TC _ _ _ _ _ _ _ _ _ _; first | refine TC.goa ?_ | refine TC.fina ?_ | fail)) | ((show Tri _ _ _ (.cond _ _ _) _ _ _; first | refine Tri.cTa ?_ | refine Tri.cFa ?_ | refine Tri.condTa ?_ | refine Tri.condFa ?_ | refine Tri.condNTa ?_ | refine Tri.condNFa ?_ | fail))))
        exact Post.cut _ _ ⟨rfl, rfl⟩ (by (exact Sub.au)) (by (exact Ents.au))
      · have hf0 : f = 0 := by
          rw [hf, fromW, if_neg]
          rw [hc0]; intro h; cases h; exact h45 rfl
        subst hf0
        (repeat' (first | ((show TL _ _ _ _ (_ :: _) _ _ _; first | refine TL.fa ?_ | refine TL.ua ?_ | (refine TL.rba ?_; intro _) | (refine TL.rra ?_; first | rintro _ _ ⟨rfl, rfl⟩ | rintro _ _ rfl) | refine TL.offa ?_ | refine TL.off0a ?_ | refine TL.gu ?_ | fail)) | (first | refine Stp.h ?_ | refine Post.then_normal ?_ | refine Post.next ?_ | refine Post.block_other rfl ?_) | (first | (show TT _ _ _ _ _ _ _ _ _; first | refine TT.takea ?_ | refine TT.takeMa ?_ | refine TT.takeOffa ?_ | refine TT.gu ?_ | fail) | exact TTs.nil | refine TTs.cons ?_ ?_ | (show T1 _ _ _ _ _ _ _ _ _ _; first | refine T1.ua ?_ | (refine T1.rba ?_; intro _) | (refine T1.rra ?_; first | rintro _ _ ⟨rfl, rfl⟩ | rintro _ _ rfl) | refine T1.fa ?_ | refine T1.offa ?_ | refine T1.off0a ?_ | fail) | (show TC _ _ _ _ _ _ _ _ _ _; first | refine TC.goa ?_ | refine TC.fina ?_ | fail)) | ((show Tri _ _ _ (.cond _ _ _) _ _ _; first | refine Tri.cTa ?_ | refine Tri.cFa ?_ | refine Tri.condTa ?_ | refine Tri.condFa ?_ | refine Tri.condNTa ?_ | refine Tri.condNFa ?_ | fail))))
        exact Post.cut _ _ ⟨rfl, rfl⟩ (by (exact Sub.au)) (by (exact Ents.au))
  rintro _ As ⟨rfl, rfl⟩
  by_cases hb : l.length < 1 ∨ 600 < l.length
  · have hno' := hno (fun h => by have := hR.1 h; omega)
    rw [hno']
    have hdec : (s.length : Int) - f < 1 ∨ 600 < (s.length : Int) - f := by omega
    (repeat' (first | ((show TL _ _ _ _ (_ :: _) _ _ _; first | refine TL.fa ?_ | refine TL.ua ?_ | (refine TL.rba ?_; intro _) | (refine TL.rra ?_; first | rintro _ _ ⟨rfl, rfl⟩ | rintro _ _ rfl) | refine TL.offa ?_ | refine TL.off0a ?_ | refine TL.gu ?_ | fail)) | (first | refine Stp.h ?_ | refine Post.then_normal ?_ | refine Post.next ?_ | refine Post.block_other rfl ?_) | ((show Tri _ _ _ (.cond _ _ _) _ _ _; first | refine Tri.cTa ?_ | refine Tri.cFa ?_ | refine Tri.condTa ?_ | refine Tri.condFa ?_ | refine Tri.condNTa ?_ | refine Tri.condNFa ?_ | fail)) | (first | refine TL.gsplit rfl rfl (fun hgs => ?_) (fun hgs => ?_) | refine TL.gsplitN rfl rfl (fun hgs => ?_) (fun hgs => ?_) | refine TT.gsplit rfl rfl rfl (fun hgs => ?_) (fun hgs => ?_) | refine TT.gsplitN rfl rfl rfl (fun hgs => ?_) (fun hgs => ?_)) | ((show Tri _ _ _ (.cond _ _ _) _ _ _; first | refine Tri.condP rfl (fun hc => ?_) (fun hc => ?_) | refine Tri.condN rfl (fun hc => ?_) (fun hc => ?_)))))
    all_goals
      ((try refine Post.ret_normal ?_); first | refine Post.r1a ?_ | refine Post.r2a ?_ | refine Post.r3a ?_ | refine Post.r0a ?_ | fail)
      exact ⟨_, ⟨rfl, rfl⟩, by (exact Ents.au)⟩
  (repeat' (first | ((show TL _ _ _ _ (_ :: _) _ _ _; first | refine TL.fa ?_ | refine TL.ua ?_ | (refine TL.rba ?_; intro _) | (refine TL.rra ?_; first | rintro _ _ ⟨rfl, rfl⟩ | rintro _ _ rfl) | refine TL.offa ?_ | refine TL.off0a ?_ | refine TL.gu ?_ | fail)) | (first | refine Stp.h ?_ | refine Post.then_normal ?_ | refine Post.next ?_ | refine Post.block_other rfl ?_) | (first | (show TT _ _ _ _ _ _ _ _ _; first | refine TT.takea ?_ | refine TT.takeMa ?_ | refine TT.takeOffa ?_ | refine TT.gu ?_ | fail) | exact TTs.nil | refine TTs.cons ?_ ?_ | (show T1 _ _ _ _ _ _ _ _ _ _; first | refine T1.ua ?_ | (refine T1.rba ?_; intro _) | (refine T1.rra ?_; first | rintro _ _ ⟨rfl, rfl⟩ | rintro _ _ rfl) | refine T1.fa ?_ | refine T1.offa ?_ | refine T1.off0a ?_ | fail) | (show TC _ _ _ _ _ _ _ _ _ _; first | refine TC.goa ?_ | refine TC.fina ?_ | fail)) | ((show Tri _ _ _ (.cond _ _ _) _ _ _; first | refine Tri.cTa ?_ | refine Tri.cFa ?_ | refine Tri.condTa ?_ | refine Tri.condFa ?_ | refine Tri.condNTa ?_ | refine Tri.condNFa ?_ | fail))))
  refine Tri.loop (ι := Nat) (fun k => k ≤ l.length ∧ ∀ (j : Nat) (c : UInt8), j < k → l[j]? = some c → isDig c = true) (fun k => l.length - k)
    (fun k => [(0, .string ⟨s.toArray⟩), (3, .int .i64 (f : Int)), (5, .int .i64 ((f + k : Nat) : Int))]) (fun _ => As) 0 ⟨by omega, fun _ _ h => by omega⟩ (by (exact Sub.au)) (by (exact Ents.au)) ?_
  intro k ⟨hk, hkd⟩
  (repeat' (first | ((show TL _ _ _ _ (_ :: _) _ _ _; first | refine TL.fa ?_ | refine TL.ua ?_ | (refine TL.rba ?_; intro _) | (refine TL.rra ?_; first | rintro _ _ ⟨rfl, rfl⟩ | rintro _ _ rfl) | refine TL.offa ?_ | refine TL.off0a ?_ | refine TL.gu ?_ | fail)) | (first | refine Stp.h ?_ | refine Post.then_normal ?_ | refine Post.next ?_ | refine Post.block_other rfl ?_) | (first | (show TT _ _ _ _ _ _ _ _ _; first | refine TT.takea ?_ | refine TT.takeMa ?_ | refine TT.takeOffa ?_ | refine TT.gu ?_ | fail) | exact TTs.nil | refine TTs.cons ?_ ?_ | (show T1 _ _ _ _ _ _ _ _ _ _; first | refine T1.ua ?_ | (refine T1.rba ?_; intro _) | (refine T1.rra ?_; first | rintro _ _ ⟨rfl, rfl⟩ | rintro _ _ rfl) | refine T1.fa ?_ | refine T1.offa ?_ | refine T1.off0a ?_ | fail) | (show TC _ _ _ _ _ _ _ _ _ _; first | refine TC.goa ?_ | refine TC.fina ?_ | fail)) | ((show Tri _ _ _ (.cond _ _ _) _ _ _; first | refine Tri.cTa ?_ | refine Tri.cFa ?_ | refine Tri.condTa ?_ | refine Tri.condFa ?_ | refine Tri.condNTa ?_ | refine Tri.condNFa ?_ | fail))))
  ((show Tri _ _ _ (.cond _ _ _) _ _ _; first | refine Tri.condP rfl (fun hc => ?_) (fun hc => ?_) | refine Tri.condN rfl (fun hc => ?_) (fun hc => ?_)))
  · obtain ⟨c, hc'⟩ : ∃ c, l[k]? = some c := ⟨_, List.getElem?_eq_getElem (by omega)⟩
    have hsc : s[f + k]? = some c := by rw [hget, hc']
    by_cases hcd : 48 ≤ c.toNat ∧ c.toNat ≤ 57
    · (repeat' (first | ((show TL _ _ _ _ (_ :: _) _ _ _; first | refine TL.fa ?_ | refine TL.ua ?_ | (refine TL.rba ?_; intro _) | (refine TL.rra ?_; first | rintro _ _ ⟨rfl, rfl⟩ | rintro _ _ rfl) | refine TL.offa ?_ | refine TL.off0a ?_ | refine TL.gu ?_ | fail)) | (first | refine Stp.h ?_ | refine Post.then_normal ?_ | refine Post.next ?_ | refine Post.block_other rfl ?_) | (first | (show TT _ _ _ _ _ _ _ _ _; first | refine TT.takea ?_ | refine TT.takeMa ?_ | refine TT.takeOffa ?_ | refine TT.gu ?_ | fail) | exact TTs.nil | refine TTs.cons ?_ ?_ | (show T1 _ _ _ _ _ _ _ _ _ _; first | refine T1.ua ?_ | (refine T1.rba ?_; intro _) | (refine T1.rra ?_; first | rintro _ _ ⟨rfl, rfl⟩ | rintro _ _ rfl) | refine T1.fa ?_ | refine T1.offa ?_ | refine T1.off0a ?_ | fail) | (show TC _ _ _ _ _ _ _ _ _ _; first | refine TC.goa ?_ | refine TC.fina ?_ | fail)) | ((show Tri _ _ _ (.cond _ _ _) _ _ _; first | refine Tri.cTa ?_ | refine Tri.cFa ?_ | refine Tri.condTa ?_ | refine Tri.condFa ?_ | refine Tri.condNTa ?_ | refine Tri.condNFa ?_ | fail))))
      refine Post.round (k + 1) ⟨by omega, fun j y hj hy => ?_⟩ (by omega) (by (exact Sub.au)) (by (exact Ents.au))
      rcases Nat.lt_or_ge j k with h1 | h1
      · exact hkd j y h1 hy
      · rw [show j = k from (by omega), hc'] at hy; cases hy; rw [isDig_iff]; exact hcd
    · have hno' := hno (fun h => by
        have := isDig_iff.1 ((hR.1 h).2.2.1 c (List.mem_of_getElem? hc'))
        exact hcd this)
      rw [hno']
      (repeat' (first | ((show TL _ _ _ _ (_ :: _) _ _ _; first | refine TL.fa ?_ | refine TL.ua ?_ | (refine TL.rba ?_; intro _) | (refine TL.rra ?_; first | rintro _ _ ⟨rfl, rfl⟩ | rintro _ _ rfl) | refine TL.offa ?_ | refine TL.off0a ?_ | refine TL.gu ?_ | fail)) | (first | refine Stp.h ?_ | refine Post.then_normal ?_ | refine Post.next ?_ | refine Post.block_other rfl ?_) | ((show Tri _ _ _ (.cond _ _ _) _ _ _; first | refine Tri.cTa ?_ | refine Tri.cFa ?_ | refine Tri.condTa ?_ | refine Tri.condFa ?_ | refine Tri.condNTa ?_ | refine Tri.condNFa ?_ | fail)) | (first | refine TL.gsplit rfl rfl (fun hgs => ?_) (fun hgs => ?_) | refine TL.gsplitN rfl rfl (fun hgs => ?_) (fun hgs => ?_) | refine TT.gsplit rfl rfl rfl (fun hgs => ?_) (fun hgs => ?_) | refine TT.gsplitN rfl rfl rfl (fun hgs => ?_) (fun hgs => ?_)) | ((show Tri _ _ _ (.cond _ _ _) _ _ _; first | refine Tri.condP rfl (fun hc => ?_) (fun hc => ?_) | refine Tri.condN rfl (fun hc => ?_) (fun hc => ?_)))))
      all_goals
        ((try refine Post.ret_normal ?_); first | refine Post.r1a ?_ | refine Post.r2a ?_ | refine Post.r3a ?_ | refine Post.r0a ?_ | fail)
        exact ⟨_, ⟨rfl, rfl⟩, by (exact Ents.au)⟩
  · have hall : ∀ c ∈ l, isDig c = true := fun c hc => by
      obtain ⟨j, hj⟩ := List.mem_iff_getElem?.1 hc
      exact hkd j c (by have := (List.getElem?_eq_some_iff.1 hj).1; omega) hj
    obtain ⟨c0, hc0⟩ : ∃ c, l[0]? = some c := ⟨_, List.getElem?_eq_getElem (by omega)⟩
    have hsc : s[f]? = some c0 := by have := hget 0; rw [Nat.add_zero] at this; rw [this, hc0]
    by_cases h48 : (c0.toNat : Int) = 48
    · have h5 : l[0]? = some 48 := by rw [hc0]; congr 1; apply UInt8.toNat_inj.1; show c0.toNat = 48; omega
      by_cases hl1 : s.length = 1
      · rw [hyes (hR.2 ⟨by omega, by omega, hall, fun _ => hl1⟩)]
        (repeat' (first | ((show TL _ _ _ _ (_ :: _) _ _ _; first | refine TL.fa ?_ | refine TL.ua ?_ | (refine TL.rba ?_; intro _) | (refine TL.rra ?_; first | rintro _ _ ⟨rfl, rfl⟩ | rintro _ _ rfl) | refine TL.offa ?_ | refine TL.off0a ?_ | refine TL.gu ?_ | fail)) | (first | refine Stp.h ?_ | refine Post.then_normal ?_ | refine Post.next ?_ | refine Post.block_other rfl ?_) | (first | (show TT _ _ _ _ _ _ _ _ _; first | refine TT.takea ?_ | refine TT.takeMa ?_ | refine TT.takeOffa ?_ | refine TT.gu ?_ | fail) | exact TTs.nil | refine TTs.cons ?_ ?_ | (show T1 _ _ _ _ _ _ _ _ _ _; first | refine T1.ua ?_ | (refine T1.rba ?_; intro _) | (refine T1.rra ?_; first | rintro _ _ ⟨rfl, rfl⟩ | rintro _ _ rfl) | refine T1.fa ?_ | refine T1.offa ?_ | refine T1.off0a ?_ | fail) | (show TC _ _ _ _ _ _ _ _ _ _; first | refine TC.goa ?_ | refine TC.fina ?_ | fail)) | ((show Tri _ _ _ (.cond _ _ _) _ _ _; first | refine Tri.cTa ?_ | refine Tri.cFa ?_ | refine Tri.condTa ?_ | refine Tri.condFa ?_ | refine Tri.condNTa ?_ | refine Tri.condNFa ?_ | fail))))
        ((try refine Post.ret_normal ?_); first | refine Post.r1a ?_ | refine Post.r2a ?_ | refine Post.r3a ?_ | refine Post.r0a ?_ | fail)
        exact ⟨_, ⟨by simp [hl1], rfl⟩, by (exact Ents.au)⟩
      · rw [hno (fun h => hl1 ((hR.1 h).2.2.2 h5))]
        (repeat' (first | ((show TL _ _ _ _ (_ :: _) _ _ _; first | refine TL.fa ?_ | refine TL.ua ?_ | (refine TL.rba ?_; intro _) | (refine TL.rra ?_; first | rintro _ _ ⟨rfl, rfl⟩ | rintro _ _ rfl) | refine TL.offa ?_ | refine TL.off0a ?_ | refine TL.gu ?_ | fail)) | (first | refine Stp.h ?_ | refine Post.then_normal ?_ | refine Post.next ?_ | refine Post.block_other rfl ?_) | (first | (show TT _ _ _ _ _ _ _ _ _; first | refine TT.takea ?_ | refine TT.takeMa ?_ | refine TT.takeOffa ?_ | refine TT.gu ?_ | fail) | exact TTs.nil | refine TTs.cons ?_ ?_ | (show T1 _ _ _ _ _ _ _ _ _ _; first | refine T1.ua ?_ | (refine T1.rba ?_; intro _) | (refine T1.rra ?_; first | rintro _ _ ⟨rfl, rfl⟩ | rintro _ _ rfl) | refine T1.fa ?_ | refine T1.offa ?_ | refine T1.off0a ?_ | fail) | (show TC _ _ _ _ _ _ _ _ _ _; first | refine TC.goa ?_ | refine TC.fina ?_ | fail)) | ((show Tri _ _ _ (.cond _ _ _) _ _ _; first | refine Tri.cTa ?_ | refine Tri.cFa ?_ | refine Tri.condTa ?_ | refine Tri.condFa ?_ | refine Tri.condNTa ?_ | refine Tri.condNFa ?_ | fail))))
        ((try refine Post.ret_normal ?_); first | refine Post.r1a ?_ | refine Post.r2a ?_ | refine Post.r3a ?_ | refine Post.r0a ?_ | fail)
        exact ⟨_, ⟨by rw [decide_eq_false (by omega)], rfl⟩, by (exact Ents.au)⟩
    · rw [hyes (hR.2 ⟨by omega, by omega, hall, fun h => by rw [hc0] at h; cases h; exact absurd rfl h48⟩)]
      (repeat' (first | ((show TL _ _ _ _ (_ :: _) _ _ _; first | refine TL.fa ?_ | refine TL.ua ?_ | (refine TL.rba ?_; intro _) | (refine TL.rra ?_; first | rintro _ _ ⟨rfl, rfl⟩ | rintro _ _ rfl) | refine TL.offa ?_ | refine TL.off0a ?_ | refine TL.gu ?_ | fail)) | (first | refine Stp.h ?_ | refine Post.then_normal ?_ | refine Post.next ?_ | refine Post.block_other rfl ?_) | (first | (show TT _ _ _ _ _ _ _ _ _; first | refine TT.takea ?_ | refine TT.takeMa ?_ | refine TT.takeOffa ?_ | refine TT.gu ?_ | fail) | exact TTs.nil | refine TTs.cons ?_ ?_ | (show T1 _ _ _ _ _ _ _ _ _ _; first | refine T1.ua ?_ | (refine T1.rba ?_; intro _) | (refine T1.rra ?_; first | rintro _ _ ⟨rfl, rfl⟩ | rintro _ _ rfl) | refine T1.fa ?_ | refine T1.offa ?_ | refine T1.off0a ?_ | fail) | (show TC _ _ _ _ _ _ _ _ _ _; first | refine TC.goa ?_ | refine TC.fina ?_ | fail)) | ((show Tri _ _ _ (.cond _ _ _) _ _ _; first | refine Tri.cTa ?_ | refine Tri.cFa ?_ | refine Tri.condTa ?_ | refine Tri.condFa ?_ | refine Tri.condNTa ?_ | refine Tri.condNFa ?_ | fail))))
      ((try refine Post.ret_normal ?_); first | refine Post.r1a ?_ | refine Post.r2a ?_ | refine Post.r3a ?_ | refine Post.r0a ?_ | fail)
      exact ⟨_, ⟨by first | rfl | simp [h48], rfl⟩, by (exact Ents.au)⟩
theorem ofR_ok {n : Int} (h0 : -9223372036854775808 ≤ n) (h1 : n ≤ 9223372036854775807) : CallsS Tryz.prog w0 13 [.int .i64 n] As fun u Bs => u = .string ⟨(textI n).toArray⟩ ∧ Bs = As := by
  have hn : Lib.nDigits n.natAbs ≤ 600 := Nat.le_trans (nDigits_le (k := 19) (by omega)) (by omega)
  have hq : (qud n.natAbs).length ≤ 100 := by
    by_cases h : n.natAbs = 0
    · rw [h, qud_zero]; simp
    · have h2 := pow_le_qud h
      rcases Nat.lt_or_ge (qud n.natAbs).length 100 with h3 | h3
      · omega
      · have := Nat.pow_le_pow_right (n := 10000) (by omega) (show 6 ≤ (qud n.natAbs).length - 1 by omega)
        omega
  refine CallsS.of_tri Tryz.func13 rfl Tryz.ntmps13 rfl ?_
  (repeat' (first | ((show TL _ _ _ _ (_ :: _) _ _ _; first | refine TL.fa ?_ | refine TL.ua ?_ | (refine TL.rba ?_; intro _) | (refine TL.rra ?_; first | rintro _ _ ⟨rfl, rfl⟩ | rintro _ _ rfl) | refine TL.offa ?_ | refine TL.off0a ?_ | refine TL.gu ?_ | fail)) | (first | refine Stp.h ?_ | refine Post.then_normal ?_ | refine Post.next ?_ | refine Post.block_other rfl ?_) | ((show Tri _ _ _ (.cond _ _ _) _ _ _; first | refine Tri.cTa ?_ | refine Tri.cFa ?_ | refine Tri.condTa ?_ | refine Tri.condFa ?_ | refine Tri.condNTa ?_ | refine Tri.condNFa ?_ | fail))))
  refine TL.call rfl rfl rfl (integerR_ok h0 h1) ?_
  rintro _ _ ⟨p, cap, rfl, rfl⟩
  (repeat' (first | ((show TL _ _ _ _ (_ :: _) _ _ _; first | refine TL.fa ?_ | refine TL.ua ?_ | (refine TL.rba ?_; intro _) | (refine TL.rra ?_; first | rintro _ _ ⟨rfl, rfl⟩ | rintro _ _ rfl) | refine TL.offa ?_ | refine TL.off0a ?_ | refine TL.gu ?_ | fail)) | (first | refine Stp.h ?_ | refine Post.then_normal ?_ | refine Post.next ?_ | refine Post.block_other rfl ?_) | ((show Tri _ _ _ (.cond _ _ _) _ _ _; first | refine Tri.cTa ?_ | refine Tri.cFa ?_ | refine Tri.condTa ?_ | refine Tri.condFa ?_ | refine Tri.condNTa ?_ | refine Tri.condNFa ?_ | fail))))
  refine TL.call rfl rfl rfl (outR_ok (z := n) (by omega)) ?_
  rintro _ _ ⟨rfl, rfl⟩
  rw [outW, if_neg (by omega)]
  (repeat' (first | ((show TL _ _ _ _ (_ :: _) _ _ _; first | refine TL.fa ?_ | refine TL.ua ?_ | (refine TL.rba ?_; intro _) | (refine TL.rra ?_; first | rintro _ _ ⟨rfl, rfl⟩ | rintro _ _ rfl) | refine TL.offa ?_ | refine TL.off0a ?_ | refine TL.gu ?_ | fail)) | (first | refine Stp.h ?_ | refine Post.then_normal ?_ | refine Post.next ?_ | refine Post.block_other rfl ?_) | ((show Tri _ _ _ (.cond _ _ _) _ _ _; first | refine Tri.cTa ?_ | refine Tri.cFa ?_ | refine Tri.condTa ?_ | refine Tri.condFa ?_ | refine Tri.condNTa ?_ | refine Tri.condNFa ?_ | fail))))
  ((try refine Post.ret_normal ?_); first | refine Post.r1a ?_ | refine Post.r2a ?_ | refine Post.r3a ?_ | refine Post.r0a ?_ | fail)
  exact ⟨_, ⟨rfl, rfl⟩, by (exact Ents.au)⟩
theorem natAbs_add_lt {x y : Int} {n : Nat} (hx : x.natAbs < 10 ^ n) (hy : y.natAbs < 10 ^ n) : (x + y).natAbs < 10 ^ (n + 1) := by
  rw [Nat.pow_succ]
  generalize (10 : Nat) ^ n = K at hx hy ⊢
  omega
theorem qud_len_600 {z : Int} (h : z.natAbs < 10 ^ 600) : (qud z.natAbs).length ≤ 1000 := by
  by_cases h0 : z.natAbs = 0
  · rw [h0, qud_zero]; simp
  · have h2 := pow_le_qud h0
    rcases Nat.lt_or_ge (qud z.natAbs).length 1000 with h3 | h3
    · omega
    · exfalso
      have h4 : 10000 ^ ((qud z.natAbs).length - 1) < 10 ^ 600 := Nat.lt_of_le_of_lt h2 h
      rw [show (10000 : Nat) = 10 ^ 4 from rfl, ← Nat.pow_mul] at h4
      have h5 := Nat.pow_le_pow_right (n := 10) (by omega) (show 600 ≤ 4 * ((qud z.natAbs).length - 1) by omega)
      exact absurd h4 (Nat.not_lt.2 h5)
theorem qud_len_601 {z : Int} {n : Nat} (hn : n = 601) (h : z.natAbs < 10 ^ n) : (qud z.natAbs).length ≤ 2000 := by
  subst hn
  by_cases h0 : z.natAbs = 0
  · rw [h0, qud_zero]; simp
  · have h2 := pow_le_qud h0
    rcases Nat.lt_or_ge (qud z.natAbs).length 2000 with h3 | h3
    · omega
    · exfalso
      have h4 : 10000 ^ ((qud z.natAbs).length - 1) < 10 ^ 601 := Nat.lt_of_le_of_lt h2 h
      rw [show (10000 : Nat) = 10 ^ 4 from rfl, ← Nat.pow_mul] at h4
      have h5 := Nat.pow_le_pow_right (n := 10) (by omega) (show 601 ≤ 4 * ((qud z.natAbs).length - 1) by omega)
      exact absurd h4 (Nat.not_lt.2 h5)
theorem addR_ok {s t : List UInt8} (hs : s.length ≤ 1000000000) (ht : t.length ≤ 1000000000) :
    CallsS Tryz.prog w0 41 [.string ⟨s.toArray⟩, .string ⟨t.toArray⟩] As fun u Bs => u = .tuple #[.string ⟨(addW s t).1.toArray⟩, .int .i64 (addW s t).2] ∧ Bs = As := by
  refine CallsS.of_tri Tryz.func41 rfl Tryz.ntmps41 rfl ?_
  (repeat' (first | ((show TL _ _ _ _ (_ :: _) _ _ _; first | refine TL.fa ?_ | refine TL.ua ?_ | (refine TL.rba ?_; intro _) | (refine TL.rra ?_; first | rintro _ _ ⟨rfl, rfl⟩ | rintro _ _ rfl) | refine TL.offa ?_ | refine TL.off0a ?_ | refine TL.gu ?_ | fail)) | (first | refine Stp.h ?_ | refine Post.then_normal ?_ | refine Post.next ?_ | refine Post.block_other rfl ?_) | ((show Tri _ _ _ (.cond _ _ _) _ _ _; first | refine Tri.cTa ?_ | refine Tri.cFa ?_ | refine Tri.condTa ?_ | refine Tri.condFa ?_ | refine Tri.condNTa ?_ | refine Tri.condNFa ?_ | fail))))
  refine TL.call rfl rfl rfl (rightR_ok hs) ?_
  rintro _ _ ⟨rfl, rfl⟩
  cases h1 : readW s with
  | none =>
    (repeat' (first | ((show TL _ _ _ _ (_ :: _) _ _ _; first | refine TL.fa ?_ | refine TL.ua ?_ | (refine TL.rba ?_; intro _) | (refine TL.rra ?_; first | rintro _ _ ⟨rfl, rfl⟩ | rintro _ _ rfl) | refine TL.offa ?_ | refine TL.off0a ?_ | refine TL.gu ?_ | fail)) | (first | refine Stp.h ?_ | refine Post.then_normal ?_ | refine Post.next ?_ | refine Post.block_other rfl ?_) | ((show Tri _ _ _ (.cond _ _ _) _ _ _; first | refine Tri.cTa ?_ | refine Tri.cFa ?_ | refine Tri.condTa ?_ | refine Tri.condFa ?_ | refine Tri.condNTa ?_ | refine Tri.condNFa ?_ | fail))))
    ((try refine Post.ret_normal ?_); first | refine Post.r1a ?_ | refine Post.r2a ?_ | refine Post.r3a ?_ | refine Post.r0a ?_ | fail)
    exact ⟨_, ⟨by rw [addW, h1], rfl⟩, by (exact Ents.au)⟩
  | some x =>
    rw [Option.isSome_some]
    (repeat' (first | ((show TL _ _ _ _ (_ :: _) _ _ _; first | refine TL.fa ?_ | refine TL.ua ?_ | (refine TL.rba ?_; intro _) | (refine TL.rra ?_; first | rintro _ _ ⟨rfl, rfl⟩ | rintro _ _ rfl) | refine TL.offa ?_ | refine TL.off0a ?_ | refine TL.gu ?_ | fail)) | (first | refine Stp.h ?_ | refine Post.then_normal ?_ | refine Post.next ?_ | refine Post.block_other rfl ?_) | ((show Tri _ _ _ (.cond _ _ _) _ _ _; first | refine Tri.cTa ?_ | refine Tri.cFa ?_ | refine Tri.condTa ?_ | refine Tri.condFa ?_ | refine Tri.condNTa ?_ | refine Tri.condNFa ?_ | fail))))
    refine TL.call rfl rfl rfl (rightR_ok ht) ?_
    rintro _ _ ⟨rfl, rfl⟩
    cases h2 : readW t with
    | none =>
      (repeat' (first | ((show TL _ _ _ _ (_ :: _) _ _ _; first | refine TL.fa ?_ | refine TL.ua ?_ | (refine TL.rba ?_; intro _) | (refine TL.rra ?_; first | rintro _ _ ⟨rfl, rfl⟩ | rintro _ _ rfl) | refine TL.offa ?_ | refine TL.off0a ?_ | refine TL.gu ?_ | fail)) | (first | refine Stp.h ?_ | refine Post.then_normal ?_ | refine Post.next ?_ | refine Post.block_other rfl ?_) | ((show Tri _ _ _ (.cond _ _ _) _ _ _; first | refine Tri.cTa ?_ | refine Tri.cFa ?_ | refine Tri.condTa ?_ | refine Tri.condFa ?_ | refine Tri.condNTa ?_ | refine Tri.condNFa ?_ | fail))))
      ((try refine Post.ret_normal ?_); first | refine Post.r1a ?_ | refine Post.r2a ?_ | refine Post.r3a ?_ | refine Post.r0a ?_ | fail)
      exact ⟨_, ⟨by rw [addW, h1, h2], rfl⟩, by (exact Ents.au)⟩
    | some y =>
      rw [Option.isSome_some]
      have hx := readW_lt h1
      have hy := readW_lt h2
      have hxq := qud_len_600 hx
      have hyq := qud_len_600 hy
      have hxy : (qud (x + y).natAbs).length ≤ 2000 := by
        exact qud_len_601 (n := 600 + 1) (Nat.add_comm 600 1 ▸ rfl) (natAbs_add_lt hx hy)
      clear hx hy
      (repeat' (first | ((show TL _ _ _ _ (_ :: _) _ _ _; first | refine TL.fa ?_ | refine TL.ua ?_ | (refine TL.rba ?_; intro _) | (refine TL.rra ?_; first | rintro _ _ ⟨rfl, rfl⟩ | rintro _ _ rfl) | refine TL.offa ?_ | refine TL.off0a ?_ | refine TL.gu ?_ | fail)) | (first | refine Stp.h ?_ | refine Post.then_normal ?_ | refine Post.next ?_ | refine Post.block_other rfl ?_) | ((show Tri _ _ _ (.cond _ _ _) _ _ _; first | refine Tri.cTa ?_ | refine Tri.cFa ?_ | refine Tri.condTa ?_ | refine Tri.condFa ?_ | refine Tri.condNTa ?_ | refine Tri.condNFa ?_ | fail))))
      refine TL.call rfl rfl rfl (inR_ok h1) ?_
      rintro _ _ ⟨p, cap, rfl, rfl⟩
      (repeat' (first | ((show TL _ _ _ _ (_ :: _) _ _ _; first | refine TL.fa ?_ | refine TL.ua ?_ | (refine TL.rba ?_; intro _) | (refine TL.rra ?_; first | rintro _ _ ⟨rfl, rfl⟩ | rintro _ _ rfl) | refine TL.offa ?_ | refine TL.off0a ?_ | refine TL.gu ?_ | fail)) | (first | refine Stp.h ?_ | refine Post.then_normal ?_ | refine Post.next ?_ | refine Post.block_other rfl ?_) | ((show Tri _ _ _ (.cond _ _ _) _ _ _; first | refine Tri.cTa ?_ | refine Tri.cFa ?_ | refine Tri.condTa ?_ | refine Tri.condFa ?_ | refine Tri.condNTa ?_ | refine Tri.condNFa ?_ | fail))))
      refine TL.call rfl rfl rfl (inR_ok h2) ?_
      rintro _ _ ⟨q, cap', rfl, rfl⟩
      (repeat' (first | ((show TL _ _ _ _ (_ :: _) _ _ _; first | refine TL.fa ?_ | refine TL.ua ?_ | (refine TL.rba ?_; intro _) | (refine TL.rra ?_; first | rintro _ _ ⟨rfl, rfl⟩ | rintro _ _ rfl) | refine TL.offa ?_ | refine TL.off0a ?_ | refine TL.gu ?_ | fail)) | (first | refine Stp.h ?_ | refine Post.then_normal ?_ | refine Post.next ?_ | refine Post.block_other rfl ?_) | ((show Tri _ _ _ (.cond _ _ _) _ _ _; first | refine Tri.cTa ?_ | refine Tri.cFa ?_ | refine Tri.condTa ?_ | refine Tri.condFa ?_ | refine Tri.condNTa ?_ | refine Tri.condNFa ?_ | fail))))
      refine TL.call rfl rfl rfl (plusR_ok (x := x) (y := y) (by omega) (by omega)) ?_
      rintro _ _ ⟨r, cap3, rfl, rfl⟩
      (repeat' (first | ((show TL _ _ _ _ (_ :: _) _ _ _; first | refine TL.fa ?_ | refine TL.ua ?_ | (refine TL.rba ?_; intro _) | (refine TL.rra ?_; first | rintro _ _ ⟨rfl, rfl⟩ | rintro _ _ rfl) | refine TL.offa ?_ | refine TL.off0a ?_ | refine TL.gu ?_ | fail)) | (first | refine Stp.h ?_ | refine Post.then_normal ?_ | refine Post.next ?_ | refine Post.block_other rfl ?_) | ((show Tri _ _ _ (.cond _ _ _) _ _ _; first | refine Tri.cTa ?_ | refine Tri.cFa ?_ | refine Tri.condTa ?_ | refine Tri.condFa ?_ | refine Tri.condNTa ?_ | refine Tri.condNFa ?_ | fail))))
      refine TL.call rfl rfl rfl (outR_ok (z := x + y) (by omega)) ?_
      rintro _ _ ⟨rfl, rfl⟩
      (repeat' (first | ((show TL _ _ _ _ (_ :: _) _ _ _; first | refine TL.fa ?_ | refine TL.ua ?_ | (refine TL.rba ?_; intro _) | (refine TL.rra ?_; first | rintro _ _ ⟨rfl, rfl⟩ | rintro _ _ rfl) | refine TL.offa ?_ | refine TL.off0a ?_ | refine TL.gu ?_ | fail)) | (first | refine Stp.h ?_ | refine Post.then_normal ?_ | refine Post.next ?_ | refine Post.block_other rfl ?_) | ((show Tri _ _ _ (.cond _ _ _) _ _ _; first | refine Tri.cTa ?_ | refine Tri.cFa ?_ | refine Tri.condTa ?_ | refine Tri.condFa ?_ | refine Tri.condNTa ?_ | refine Tri.condNFa ?_ | fail))))
      ((try refine Post.ret_normal ?_); first | refine Post.r1a ?_ | refine Post.r2a ?_ | refine Post.r3a ?_ | refine Post.r0a ?_ | fail)
      exact ⟨_, ⟨by simp only [addW, h1, h2]; rfl, rfl⟩, by (exact Ents.au)⟩
end Go.Proofs.YtfbhlfhecmhihaaGreatDoor
