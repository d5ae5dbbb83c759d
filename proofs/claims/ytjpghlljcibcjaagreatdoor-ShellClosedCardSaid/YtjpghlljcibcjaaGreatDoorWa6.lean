/- Walks: differences of magnitudes, sums of numbers with a sign. -/
import Derived.Test.YtjpghlljcibcjaaGreatDoorWa5
namespace Go.Proofs.YtjpghlljcibcjaaGreatDoor
open Go Go.Sx
variable {w0 : World} {As : List Ent}
theorem minus_ok {v o : Value} {a b : Nat} [hf : RdIn As v Nat (cN .u32) (mag a)] [hg : RdIn As o Nat (cN .u32) (mag b)] (hab : b ≤ a) (ha : (mag a).length ≤ 100000000) : CallsS Tryz.prog w0 117 [v, o] As (MagR As (a - b)) := by
  have hlb := mag_len_le hab
  have hsa := mag_small a
  have hsb := mag_small b
  have hrl : (List.replicate (mag a).length 0).length = (mag a).length := List.length_replicate
  refine CallsS.of_tri Tryz.func117 rfl Tryz.ntmps117 rfl ?_
  (repeat' (first | ((show TL _ _ _ _ (_ :: _) _ _ _; first | refine TL.fa ?_ | refine TL.ua ?_ | (refine TL.rba ?_; intro _) | (refine TL.rra ?_; first | rintro _ _ ⟨rfl, rfl⟩ | rintro _ _ rfl) | refine TL.offa ?_ | refine TL.off0a ?_ | refine TL.gu ?_ | fail)) | (first | refine Stp.h ?_ | refine Post.then_normal ?_ | refine Post.next ?_ | refine Post.block_other rfl ?_) | ((show Tri _ _ _ (.cond _ _ _) _ _ _; first | refine Tri.cTa ?_ | refine Tri.cFa ?_ | refine Tri.condTa ?_ | refine Tri.condFa ?_ | refine Tri.condNTa ?_ | refine Tri.condNFa ?_ | fail))))
  rename_i sv
  refine Tri.loop (ι := Nat × List Nat × Nat) (fun s => s.1 ≤ (mag a).length ∧ s.2.1.length = (mag a).length ∧ (∀ x ∈ s.2.1, x < 1000000000) ∧ s.2.2 ≤ 1 ∧ valB (s.2.1.take s.1) + valB ((mag b).take s.1) = valB ((mag a).take s.1) + 1000000000 ^ s.1 * s.2.2) (fun s => (mag a).length - s.1)
    (fun s => [(1, o), (5, sv), (6, .int .u32 (s.2.2 : Int)), (13, v), (14, .int .i64 (mag a).length), (15, .int .i64 (s.1 : Int))]) (fun s => .ow (cN .u32) 174 sv s.2.1 :: As)
    (0, List.replicate (mag a).length 0, 0) ⟨by omega, hrl, (fun x h => by rw [List.eq_of_mem_replicate h]; decide), Nat.zero_le 1, by simp [valB]⟩ (by (exact Sub.au)) (by (exact Ents.au)) ?_
  rintro ⟨i, xs, c⟩ ⟨hi, hxl, hxs, hc1, hval⟩
  simp only at hi hxl hxs hc1 hval
  show Tri _ _ _ _ [(1, o), (5, sv), (6, .int .u32 (c : Int)), (13, v), (14, _), (15, .int .i64 (i : Int))] (.ow (cN .u32) 174 sv xs :: As) _
  (repeat' (first | ((show TL _ _ _ _ (_ :: _) _ _ _; first | refine TL.fa ?_ | refine TL.ua ?_ | (refine TL.rba ?_; intro _) | (refine TL.rra ?_; first | rintro _ _ ⟨rfl, rfl⟩ | rintro _ _ rfl) | refine TL.offa ?_ | refine TL.off0a ?_ | refine TL.gu ?_ | fail)) | (first | refine Stp.h ?_ | refine Post.then_normal ?_ | refine Post.next ?_ | refine Post.block_other rfl ?_) | ((show Tri _ _ _ (.cond _ _ _) _ _ _; first | refine Tri.cTa ?_ | refine Tri.cFa ?_ | refine Tri.condTa ?_ | refine Tri.condFa ?_ | refine Tri.condNTa ?_ | refine Tri.condNFa ?_ | fail))))
  ((show Tri _ _ _ (.cond _ _ _) _ _ _; first | refine Tri.condP rfl (fun hc => ?_) (fun hc => ?_) | refine Tri.condN rfl (fun hc => ?_) (fun hc => ?_)))
  · obtain ⟨d, hd⟩ : ∃ d, (mag a)[i]? = some d := ⟨_, List.getElem?_eq_getElem (by omega)⟩
    have hd9 := hsa d (List.mem_of_getElem? hd)
    have hta := valB_take hd
    obtain ⟨ee, he9, htb, heb⟩ : ∃ ee, ee < 1000000000 ∧ valB ((mag b).take (i + 1)) = valB ((mag b).take i) + 1000000000 ^ i * ee ∧ ((i < (mag b).length ∧ (mag b)[i]? = some ee) ∨ (¬ i < (mag b).length ∧ ee = 0)) := by
      by_cases h : i < (mag b).length
      · have h1 : (mag b)[i]? = some (mag b)[i] := List.getElem?_eq_getElem h
        exact ⟨_, hsb _ (List.mem_of_getElem? h1), valB_take h1, .inl ⟨h, h1⟩⟩
      · exact ⟨0, by omega, by rw [valB_take_ge (by omega), valB_take_ge (by omega)]; omega, .inr ⟨h, rfl⟩⟩
    have hset : ∀ g c', g < 1000000000 → c' ≤ 1 → g + c + ee = d + 1000000000 * c' → ∀ {Q : Exit → Act → World → Prop} {e : Env}, Sub e [(1, o), (5, sv), (6, .int .u32 (c' : Int)), (13, v), (14, .int .i64 (mag a).length), (15, .int .i64 ((i + 1 : Nat) : Int))] →
        valB ((xs.set i g).take (i + 1)) + valB ((mag b).take (i + 1)) = valB ((mag a).take (i + 1)) + 1000000000 ^ (i + 1) * c' := fun g c' hg9 hc9 hgc Q e _ => by
      have h1 : (xs.set i g)[i]? = some g := by rw [List.getElem?_set, if_pos rfl, if_pos (by omega)]
      rw [valB_take h1, List.take_set_of_le (Nat.le_refl i), hta, htb, Nat.pow_succ]
      exact minus_step hval hgc
    (repeat' (first | ((show TL _ _ _ _ (_ :: _) _ _ _; first | refine TL.fa ?_ | refine TL.ua ?_ | (refine TL.rba ?_; intro _) | (refine TL.rra ?_; first | rintro _ _ ⟨rfl, rfl⟩ | rintro _ _ rfl) | refine TL.offa ?_ | refine TL.off0a ?_ | refine TL.gu ?_ | fail)) | (first | refine Stp.h ?_ | refine Post.then_normal ?_ | refine Post.next ?_ | refine Post.block_other rfl ?_) | ((show Tri _ _ _ (.cond _ _ _) _ _ _; first | refine Tri.cTa ?_ | refine Tri.cFa ?_ | refine Tri.condTa ?_ | refine Tri.condFa ?_ | refine Tri.condNTa ?_ | refine Tri.condNFa ?_ | fail))))
    refine Tri.mid (fun e' As' => e' = [(1, o), (5, sv), (7, .int .i64 (i : Int)), (8, .int .u32 (d : Int)), (9, .int .u32 ((c : Int) + ee)), (13, v), (14, .int .i64 (mag a).length), (15, .int .i64 (i : Int))] ∧ As' = .ow (cN .u32) 174 sv xs :: As) ?_ ?_
    · rcases heb with ⟨h1, h2⟩ | ⟨h1, rfl⟩
      · (repeat' (first | ((show TL _ _ _ _ (_ :: _) _ _ _; first | refine TL.fa ?_ | refine TL.ua ?_ | (refine TL.rba ?_; intro _) | (refine TL.rra ?_; first | rintro _ _ ⟨rfl, rfl⟩ | rintro _ _ rfl) | refine TL.offa ?_ | refine TL.off0a ?_ | refine TL.gu ?_ | fail)) | (first | refine Stp.h ?_ | refine Post.then_normal ?_ | refine Post.next ?_ | refine Post.block_other rfl ?_) | ((show Tri _ _ _ (.cond _ _ _) _ _ _; first | refine Tri.cTa ?_ | refine Tri.cFa ?_ | refine Tri.condTa ?_ | refine Tri.condFa ?_ | refine Tri.condNTa ?_ | refine Tri.condNFa ?_ | fail))))
        exact Post.cut _ _ ⟨rfl, rfl⟩ (by (exact Sub.au)) (by (exact Ents.au))
      · (repeat' (first | ((show TL _ _ _ _ (_ :: _) _ _ _; first | refine TL.fa ?_ | refine TL.ua ?_ | (refine TL.rba ?_; intro _) | (refine TL.rra ?_; first | rintro _ _ ⟨rfl, rfl⟩ | rintro _ _ rfl) | refine TL.offa ?_ | refine TL.off0a ?_ | refine TL.gu ?_ | fail)) | (first | refine Stp.h ?_ | refine Post.then_normal ?_ | refine Post.next ?_ | refine Post.block_other rfl ?_) | ((show Tri _ _ _ (.cond _ _ _) _ _ _; first | refine Tri.cTa ?_ | refine Tri.cFa ?_ | refine Tri.condTa ?_ | refine Tri.condFa ?_ | refine Tri.condNTa ?_ | refine Tri.condNFa ?_ | fail))))
        refine Post.cut _ _ ⟨rfl, rfl⟩ ?_ (by (exact Ents.au))
        rw [show ((c : Int) + ((0 : Nat) : Int)) = (c : Int) by omega]
        (exact Sub.au)
    · rintro _ _ ⟨rfl, hB⟩
      subst hB
      (repeat' (first | ((show TL _ _ _ _ (_ :: _) _ _ _; first | refine TL.fa ?_ | refine TL.ua ?_ | (refine TL.rba ?_; intro _) | (refine TL.rra ?_; first | rintro _ _ ⟨rfl, rfl⟩ | rintro _ _ rfl) | refine TL.offa ?_ | refine TL.off0a ?_ | refine TL.gu ?_ | fail)) | (first | refine Stp.h ?_ | refine Post.then_normal ?_ | refine Post.next ?_ | refine Post.block_other rfl ?_) | ((show Tri _ _ _ (.cond _ _ _) _ _ _; first | refine Tri.cTa ?_ | refine Tri.cFa ?_ | refine Tri.condTa ?_ | refine Tri.condFa ?_ | refine Tri.condNTa ?_ | refine Tri.condNFa ?_ | fail))))
      ((show Tri _ _ _ (.cond _ _ _) _ _ _; first | refine Tri.condP rfl (fun hc => ?_) (fun hc => ?_) | refine Tri.condN rfl (fun hc => ?_) (fun hc => ?_)))
      · have e9 : ((d : Int) + 1000000000 - ((c : Int) + ee)) = ((d + 1000000000 - (c + ee) : Nat) : Int) := by omega
        (repeat' (first | ((show TL _ _ _ _ (_ :: _) _ _ _; first | refine TL.fa ?_ | refine TL.ua ?_ | (refine TL.rba ?_; intro _) | (refine TL.rra ?_; first | rintro _ _ ⟨rfl, rfl⟩ | rintro _ _ rfl) | refine TL.offa ?_ | refine TL.off0a ?_ | refine TL.gu ?_ | fail)) | (first | refine Stp.h ?_ | refine Post.then_normal ?_ | refine Post.next ?_ | refine Post.block_other rfl ?_) | ((show Tri _ _ _ (.cond _ _ _) _ _ _; first | refine Tri.cTa ?_ | refine Tri.cFa ?_ | refine Tri.condTa ?_ | refine Tri.condFa ?_ | refine Tri.condNTa ?_ | refine Tri.condNFa ?_ | fail))))
        rw [e9]
        (repeat' (first | ((show TL _ _ _ _ (_ :: _) _ _ _; first | refine TL.fa ?_ | refine TL.ua ?_ | (refine TL.rba ?_; intro _) | (refine TL.rra ?_; first | rintro _ _ ⟨rfl, rfl⟩ | rintro _ _ rfl) | refine TL.offa ?_ | refine TL.off0a ?_ | refine TL.gu ?_ | fail)) | (first | refine Stp.h ?_ | refine Post.then_normal ?_ | refine Post.next ?_ | refine Post.block_other rfl ?_) | ((show Tri _ _ _ (.cond _ _ _) _ _ _; first | refine Tri.cTa ?_ | refine Tri.cFa ?_ | refine Tri.condTa ?_ | refine Tri.condFa ?_ | refine Tri.condNTa ?_ | refine Tri.condNFa ?_ | fail))))
        refine Post.round (i + 1, xs.set i (d + 1000000000 - (c + ee)), 1) ⟨by simp only; omega, by simp; omega, small_set hxs (by omega), Nat.le_refl 1, hset _ 1 (by omega) (by omega) (by omega) (Q := fun _ _ _ => True) (e := [(1, o), (5, sv), (6, .int .u32 ((1 : Nat) : Int)), (13, v), (14, .int .i64 (mag a).length), (15, .int .i64 ((i + 1 : Nat) : Int))]) (by (exact Sub.au))⟩ (by simp only; omega) (by (exact Sub.au)) (by (exact Ents.au))
      · have e9 : ((d : Int) - ((c : Int) + ee)) = ((d - (c + ee) : Nat) : Int) := by omega
        (repeat' (first | ((show TL _ _ _ _ (_ :: _) _ _ _; first | refine TL.fa ?_ | refine TL.ua ?_ | (refine TL.rba ?_; intro _) | (refine TL.rra ?_; first | rintro _ _ ⟨rfl, rfl⟩ | rintro _ _ rfl) | refine TL.offa ?_ | refine TL.off0a ?_ | refine TL.gu ?_ | fail)) | (first | refine Stp.h ?_ | refine Post.then_normal ?_ | refine Post.next ?_ | refine Post.block_other rfl ?_) | ((show Tri _ _ _ (.cond _ _ _) _ _ _; first | refine Tri.cTa ?_ | refine Tri.cFa ?_ | refine Tri.condTa ?_ | refine Tri.condFa ?_ | refine Tri.condNTa ?_ | refine Tri.condNFa ?_ | fail))))
        rw [e9]
        (repeat' (first | ((show TL _ _ _ _ (_ :: _) _ _ _; first | refine TL.fa ?_ | refine TL.ua ?_ | (refine TL.rba ?_; intro _) | (refine TL.rra ?_; first | rintro _ _ ⟨rfl, rfl⟩ | rintro _ _ rfl) | refine TL.offa ?_ | refine TL.off0a ?_ | refine TL.gu ?_ | fail)) | (first | refine Stp.h ?_ | refine Post.then_normal ?_ | refine Post.next ?_ | refine Post.block_other rfl ?_) | ((show Tri _ _ _ (.cond _ _ _) _ _ _; first | refine Tri.cTa ?_ | refine Tri.cFa ?_ | refine Tri.condTa ?_ | refine Tri.condFa ?_ | refine Tri.condNTa ?_ | refine Tri.condNFa ?_ | fail))))
        refine Post.round (i + 1, xs.set i (d - (c + ee)), 0) ⟨by simp only; omega, by simp; omega, small_set hxs (by omega), Nat.zero_le 1, hset _ 0 (by omega) (by omega) (by omega) (Q := fun _ _ _ => True) (e := [(1, o), (5, sv), (6, .int .u32 ((0 : Nat) : Int)), (13, v), (14, .int .i64 (mag a).length), (15, .int .i64 ((i + 1 : Nat) : Int))]) (by (exact Sub.au))⟩ (by simp only; omega) (by (exact Sub.au)) (by (exact Ents.au))
  · have hie : i = (mag a).length := by omega
    rw [valB_take_ge (by omega), valB_take_ge (by omega), valB_take_ge (by omega), valB_mag, valB_mag] at hval
    have hX := valB_lt hxs
    rw [hxl, ← hie] at hX
    have hc0 : c = 0 := by
      rcases Nat.lt_or_ge 0 c with h | h
      · have : c = 1 := by omega
        subst this
        omega
      · omega
    subst hc0
    have hv : valB xs = a - b := by omega
    (repeat' (first | ((show TL _ _ _ _ (_ :: _) _ _ _; first | refine TL.fa ?_ | refine TL.ua ?_ | (refine TL.rba ?_; intro _) | (refine TL.rra ?_; first | rintro _ _ ⟨rfl, rfl⟩ | rintro _ _ rfl) | refine TL.offa ?_ | refine TL.off0a ?_ | refine TL.gu ?_ | fail)) | (first | refine Stp.h ?_ | refine Post.then_normal ?_ | refine Post.next ?_ | refine Post.block_other rfl ?_) | ((show Tri _ _ _ (.cond _ _ _) _ _ _; first | refine Tri.cTa ?_ | refine Tri.cFa ?_ | refine Tri.condTa ?_ | refine Tri.condFa ?_ | refine Tri.condNTa ?_ | refine Tri.condNFa ?_ | fail))))
    refine TL.ents Ents.freeze ?_
    refine TL.call rfl rfl rfl (trim_ok hxs (by omega)) ?_
    rintro _ _ ⟨p, cap, rfl, rfl⟩
    rw [hv]
    (repeat' (first | ((show TL _ _ _ _ (_ :: _) _ _ _; first | refine TL.fa ?_ | refine TL.ua ?_ | (refine TL.rba ?_; intro _) | (refine TL.rra ?_; first | rintro _ _ ⟨rfl, rfl⟩ | rintro _ _ rfl) | refine TL.offa ?_ | refine TL.off0a ?_ | refine TL.gu ?_ | fail)) | (first | refine Stp.h ?_ | refine Post.then_normal ?_ | refine Post.next ?_ | refine Post.block_other rfl ?_) | ((show Tri _ _ _ (.cond _ _ _) _ _ _; first | refine Tri.cTa ?_ | refine Tri.cFa ?_ | refine Tri.condTa ?_ | refine Tri.condFa ?_ | refine Tri.condNTa ?_ | refine Tri.condNFa ?_ | fail))))
    ((try refine Post.ret_normal ?_); first | refine Post.r1a ?_ | refine Post.r2a ?_ | refine Post.r3a ?_ | refine Post.r0a ?_ | fail)
    exact ⟨_, ⟨p, cap, rfl, rfl⟩, by (exact Ents.au)⟩
end Go.Proofs.YtjpghlljcibcjaaGreatDoor
