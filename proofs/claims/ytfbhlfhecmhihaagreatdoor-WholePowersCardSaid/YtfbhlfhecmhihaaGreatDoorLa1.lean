/- Walks: the law's helpers on whole numbers; closed answers, plain. -/
import Derived.Test.YtfbhlfhecmhihaaGreatDoorVb2
namespace Go.Sx
open Go
/-- a valid text is the text of its number -/
theorem text_readW {s : List UInt8} {z : Int} (h : readW s = some z) : textI z = s := by
  have key : ∀ l : List UInt8, (∀ c ∈ l, isDig c = true) → 0 < l.length → (l[0]? = some 48 → l.length = 1) → Lib.decDigits (numOf l) = l := fun l hd h0 h1 => by
    by_cases h2 : l[0]? = some 48
    · have h3 := h1 h2
      match l, h3 with
      | [c], _ =>
        simp only [List.getElem?_cons_zero, Option.some.injEq] at h2
        subst h2
        rw [show numOf [48] = 0 from rfl, dec_small (by decide)]; rfl
    · exact (dec_uniq l.length rfl hd (by intro h; rw [h] at h0; cases h0) h2).symm
  unfold readW at h
  by_cases hp : Lib.hasPrefix s [45] = true
  · rw [if_pos hp] at h
    split at h
    · rename_i hc
      cases h
      have hpos := numOf_pos (l := s.drop 1) hc.2.2.1 hc.1 hc.2.2.2
      rw [textI_eq, if_pos (by omega), Int.natAbs_neg, Int.natAbs_natCast, key _ hc.2.2.1 hc.1 (fun h => absurd h hc.2.2.2)]
      cases s with
      | nil => cases hp
      | cons c r =>
        rw [hasPrefix_minus, decide_eq_true_eq] at hp
        rw [hp]; rfl
    · cases h
  · rw [if_neg hp] at h
    split at h
    · rename_i hc
      cases h
      rw [textI_eq, if_neg (by omega), Int.natAbs_natCast, key _ hc.2.2.1 hc.1 hc.2.2.2]
    · cases h
theorem outW_of {l : List UInt8} {z : Int} (h : readW l = some z) : outW z = (l, 0) := by rw [outW_ok (readW_digits h), text_readW h]
theorem binW_lit {f : Int → Int → Int} {s t l : List UInt8} {x y : Int} (h1 : readW s = some x) (h2 : readW t = some y) (h3 : readW l = some (f x y)) : binW f s t = (l, 0) := by
  unfold binW; rw [h1, h2]; exact outW_of h3
theorem divW_lit {s t q r : List UInt8} {x y : Int} (h1 : readW s = some x) (h2 : readW t = some y) (h0 : y ≠ 0) (h3 : readW q = some (x / y)) (h4 : readW r = some (x % y)) : divW s t = (q, r, 0) := by
  unfold divW; rw [h1, h2]; simp only []; rw [if_neg h0, text_readW h3, text_readW h4]
theorem powW_lit {s l : List UInt8} {x : Int} {n : Int} (h1 : readW s = some x) (h0 : ¬ (n < 0 ∨ 40 < n)) (h3 : readW l = some (x ^ n.toNat)) : powW s n = (l, 0) := by
  unfold powW; rw [h1]; simp only []; rw [if_neg h0]; exact outW_of h3
theorem rootW_lit {s l : List UInt8} {x : Int} {k : Int} {r : Nat} (h1 : readW s = some x) (h0 : ¬ (k < 1 ∨ 12 < k ∨ x < 0)) (h2 : r ^ k.toNat ≤ x.natAbs) (h4 : x.natAbs < (r + 1) ^ k.toNat) (h3 : readW l = some (r : Int)) : rootW s k = (l, 0) := by
  unfold rootW; rw [h1]; simp only []; rw [if_neg h0, rootN_eq (by omega) h2 h4]; exact outW_of h3
end Go.Sx
namespace Go.Proofs.YtfbhlfhecmhihaaGreatDoor
open Go Go.Sx
variable {w0 : World} {As : List Ent}
theorem is_ok {s : List UInt8} : CallsS Tryz.prog w0 45 [.string ⟨s.toArray⟩] As fun u Bs => ∃ b, u = .func (.func 81) #[] #[.pointer (some ⟨b, 0, none⟩)] ∧ Bs = .cl b [.string ⟨s.toArray⟩] 29 :: As := by
  refine CallsS.of_tri Tryz.func45 rfl Tryz.ntmps45 rfl ?_
  (repeat' (first | ((show TL _ _ _ _ (_ :: _) _ _ _; first | refine TL.fa ?_ | refine TL.ua ?_ | (refine TL.rba ?_; intro _) | (refine TL.rra ?_; first | rintro _ _ ⟨rfl, rfl⟩ | rintro _ _ rfl) | refine TL.offa ?_ | refine TL.off0a ?_ | refine TL.gu ?_ | fail)) | (first | refine Stp.h ?_ | refine Post.then_normal ?_ | refine Post.next ?_ | refine Post.block_other rfl ?_) | ((show Tri _ _ _ (.cond _ _ _) _ _ _; first | refine Tri.cTa ?_ | refine Tri.cFa ?_ | refine Tri.condTa ?_ | refine Tri.condFa ?_ | refine Tri.condNTa ?_ | refine Tri.condNFa ?_ | fail))))
  ((try refine Post.ret_normal ?_); first | refine Post.r1a ?_ | refine Post.r2a ?_ | refine Post.r3a ?_ | refine Post.r0a ?_ | fail)
  exact ⟨_, ⟨_, rfl, rfl⟩, by (exact Ents.au)⟩
theorem isEnd_ok {s : List UInt8} {b : Nat} : CallsS Tryz.prog w0 81 [.string ⟨s.toArray⟩, .int .i64 0, .pointer (some ⟨b, 0, none⟩)] (.cl b [.string ⟨s.toArray⟩] 29 :: As) fun u Bs => u = .bool true ∧ Bs = .cl b [.string ⟨s.toArray⟩] 29 :: As := by
  refine CallsS.of_tri Tryz.func81 rfl Tryz.ntmps81 rfl ?_
  have hs : (s = s) := rfl
  (repeat' (first | ((show TL _ _ _ _ (_ :: _) _ _ _; first | refine TL.fa ?_ | refine TL.ua ?_ | (refine TL.rba ?_; intro _) | (refine TL.rra ?_; first | rintro _ _ ⟨rfl, rfl⟩ | rintro _ _ rfl) | refine TL.offa ?_ | refine TL.off0a ?_ | refine TL.gu ?_ | fail)) | (first | refine Stp.h ?_ | refine Post.then_normal ?_ | refine Post.next ?_ | refine Post.block_other rfl ?_) | ((show Tri _ _ _ (.cond _ _ _) _ _ _; first | refine Tri.cTa ?_ | refine Tri.cFa ?_ | refine Tri.condTa ?_ | refine Tri.condFa ?_ | refine Tri.condNTa ?_ | refine Tri.condNFa ?_ | fail))))
  ((try refine Post.ret_normal ?_); first | refine Post.r1a ?_ | refine Post.r2a ?_ | refine Post.r3a ?_ | refine Post.r0a ?_ | fail)
  exact ⟨_, ⟨by simp, rfl⟩, by (exact Ents.au)⟩
theorem fails_ok {n : Int} : CallsS Tryz.prog w0 47 [.int .i64 n] As fun u Bs => ∃ b, u = .func (.func 83) #[] #[.pointer (some ⟨b, 0, none⟩)] ∧ Bs = .cl b [.int .i64 n] 34 :: As := by
  refine CallsS.of_tri Tryz.func47 rfl Tryz.ntmps47 rfl ?_
  (repeat' (first | ((show TL _ _ _ _ (_ :: _) _ _ _; first | refine TL.fa ?_ | refine TL.ua ?_ | (refine TL.rba ?_; intro _) | (refine TL.rra ?_; first | rintro _ _ ⟨rfl, rfl⟩ | rintro _ _ rfl) | refine TL.offa ?_ | refine TL.off0a ?_ | refine TL.gu ?_ | fail)) | (first | refine Stp.h ?_ | refine Post.then_normal ?_ | refine Post.next ?_ | refine Post.block_other rfl ?_) | ((show Tri _ _ _ (.cond _ _ _) _ _ _; first | refine Tri.cTa ?_ | refine Tri.cFa ?_ | refine Tri.condTa ?_ | refine Tri.condFa ?_ | refine Tri.condNTa ?_ | refine Tri.condNFa ?_ | fail))))
  ((try refine Post.ret_normal ?_); first | refine Post.r1a ?_ | refine Post.r2a ?_ | refine Post.r3a ?_ | refine Post.r0a ?_ | fail)
  exact ⟨_, ⟨_, rfl, rfl⟩, by (exact Ents.au)⟩
theorem failsEnd_ok {n : Int} {b : Nat} : CallsS Tryz.prog w0 83 [.string ⟨#[]⟩, .int .i64 n, .pointer (some ⟨b, 0, none⟩)] (.cl b [.int .i64 n] 34 :: As) fun u Bs => u = .bool true ∧ Bs = .cl b [.int .i64 n] 34 :: As := by
  refine CallsS.of_tri Tryz.func83 rfl Tryz.ntmps83 rfl ?_
  (repeat' (first | ((show TL _ _ _ _ (_ :: _) _ _ _; first | refine TL.fa ?_ | refine TL.ua ?_ | (refine TL.rba ?_; intro _) | (refine TL.rra ?_; first | rintro _ _ ⟨rfl, rfl⟩ | rintro _ _ rfl) | refine TL.offa ?_ | refine TL.off0a ?_ | refine TL.gu ?_ | fail)) | (first | refine Stp.h ?_ | refine Post.then_normal ?_ | refine Post.next ?_ | refine Post.block_other rfl ?_) | ((show Tri _ _ _ (.cond _ _ _) _ _ _; first | refine Tri.cTa ?_ | refine Tri.cFa ?_ | refine Tri.condTa ?_ | refine Tri.condFa ?_ | refine Tri.condNTa ?_ | refine Tri.condNFa ?_ | fail))))
  ((try refine Post.ret_normal ?_); first | refine Post.r1a ?_ | refine Post.r2a ?_ | refine Post.r3a ?_ | refine Post.r0a ?_ | fail)
  exact ⟨_, ⟨by simp, rfl⟩, by (exact Ents.au)⟩
theorem says_ok {n : Int} : CallsS Tryz.prog w0 38 [.int .i64 n] As fun u Bs => ∃ b, u = .func (.func 77) #[] #[.pointer (some ⟨b, 0, none⟩)] ∧ Bs = .cl b [.int .i64 n] 3 :: As := by
  refine CallsS.of_tri Tryz.func38 rfl Tryz.ntmps38 rfl ?_
  (repeat' (first | ((show TL _ _ _ _ (_ :: _) _ _ _; first | refine TL.fa ?_ | refine TL.ua ?_ | (refine TL.rba ?_; intro _) | (refine TL.rra ?_; first | rintro _ _ ⟨rfl, rfl⟩ | rintro _ _ rfl) | refine TL.offa ?_ | refine TL.off0a ?_ | refine TL.gu ?_ | fail)) | (first | refine Stp.h ?_ | refine Post.then_normal ?_ | refine Post.next ?_ | refine Post.block_other rfl ?_) | ((show Tri _ _ _ (.cond _ _ _) _ _ _; first | refine Tri.cTa ?_ | refine Tri.cFa ?_ | refine Tri.condTa ?_ | refine Tri.condFa ?_ | refine Tri.condNTa ?_ | refine Tri.condNFa ?_ | fail))))
  ((try refine Post.ret_normal ?_); first | refine Post.r1a ?_ | refine Post.r2a ?_ | refine Post.r3a ?_ | refine Post.r0a ?_ | fail)
  exact ⟨_, ⟨_, rfl, rfl⟩, by (exact Ents.au)⟩
theorem saysEnd_ok {n : Int} {b : Nat} : CallsS Tryz.prog w0 77 [.int .i64 n, .int .i64 0, .pointer (some ⟨b, 0, none⟩)] (.cl b [.int .i64 n] 3 :: As) fun u Bs => u = .bool true ∧ Bs = .cl b [.int .i64 n] 3 :: As := by
  refine CallsS.of_tri Tryz.func77 rfl Tryz.ntmps77 rfl ?_
  (repeat' (first | ((show TL _ _ _ _ (_ :: _) _ _ _; first | refine TL.fa ?_ | refine TL.ua ?_ | (refine TL.rba ?_; intro _) | (refine TL.rra ?_; first | rintro _ _ ⟨rfl, rfl⟩ | rintro _ _ rfl) | refine TL.offa ?_ | refine TL.off0a ?_ | refine TL.gu ?_ | fail)) | (first | refine Stp.h ?_ | refine Post.then_normal ?_ | refine Post.next ?_ | refine Post.block_other rfl ?_) | ((show Tri _ _ _ (.cond _ _ _) _ _ _; first | refine Tri.cTa ?_ | refine Tri.cFa ?_ | refine Tri.condTa ?_ | refine Tri.condFa ?_ | refine Tri.condNTa ?_ | refine Tri.condNFa ?_ | fail))))
  ((try refine Post.ret_normal ?_); first | refine Post.r1a ?_ | refine Post.r2a ?_ | refine Post.r3a ?_ | refine Post.r0a ?_ | fail)
  exact ⟨_, ⟨by simp, rfl⟩, by (exact Ents.au)⟩
theorem stops_ok {n : Int} : CallsS Tryz.prog w0 44 [.int .i64 n] As fun u Bs => ∃ b, u = .func (.func 80) #[] #[.pointer (some ⟨b, 0, none⟩)] ∧ Bs = .cl b [.int .i64 n] 34 :: As := by
  refine CallsS.of_tri Tryz.func44 rfl Tryz.ntmps44 rfl ?_
  (repeat' (first | ((show TL _ _ _ _ (_ :: _) _ _ _; first | refine TL.fa ?_ | refine TL.ua ?_ | (refine TL.rba ?_; intro _) | (refine TL.rra ?_; first | rintro _ _ ⟨rfl, rfl⟩ | rintro _ _ rfl) | refine TL.offa ?_ | refine TL.off0a ?_ | refine TL.gu ?_ | fail)) | (first | refine Stp.h ?_ | refine Post.then_normal ?_ | refine Post.next ?_ | refine Post.block_other rfl ?_) | ((show Tri _ _ _ (.cond _ _ _) _ _ _; first | refine Tri.cTa ?_ | refine Tri.cFa ?_ | refine Tri.condTa ?_ | refine Tri.condFa ?_ | refine Tri.condNTa ?_ | refine Tri.condNFa ?_ | fail))))
  ((try refine Post.ret_normal ?_); first | refine Post.r1a ?_ | refine Post.r2a ?_ | refine Post.r3a ?_ | refine Post.r0a ?_ | fail)
  exact ⟨_, ⟨_, rfl, rfl⟩, by (exact Ents.au)⟩
theorem stopsEnd_ok {n : Int} {b : Nat} : CallsS Tryz.prog w0 80 [.int .i64 0, .int .i64 n, .pointer (some ⟨b, 0, none⟩)] (.cl b [.int .i64 n] 34 :: As) fun u Bs => u = .bool true ∧ Bs = .cl b [.int .i64 n] 34 :: As := by
  refine CallsS.of_tri Tryz.func80 rfl Tryz.ntmps80 rfl ?_
  (repeat' (first | ((show TL _ _ _ _ (_ :: _) _ _ _; first | refine TL.fa ?_ | refine TL.ua ?_ | (refine TL.rba ?_; intro _) | (refine TL.rra ?_; first | rintro _ _ ⟨rfl, rfl⟩ | rintro _ _ rfl) | refine TL.offa ?_ | refine TL.off0a ?_ | refine TL.gu ?_ | fail)) | (first | refine Stp.h ?_ | refine Post.then_normal ?_ | refine Post.next ?_ | refine Post.block_other rfl ?_) | ((show Tri _ _ _ (.cond _ _ _) _ _ _; first | refine Tri.cTa ?_ | refine Tri.cFa ?_ | refine Tri.condTa ?_ | refine Tri.condFa ?_ | refine Tri.condNTa ?_ | refine Tri.condNFa ?_ | fail))))
  ((try refine Post.ret_normal ?_); first | refine Post.r1a ?_ | refine Post.r2a ?_ | refine Post.r3a ?_ | refine Post.r0a ?_ | fail)
  exact ⟨_, ⟨by simp, rfl⟩, by (exact Ents.au)⟩
theorem parts_ok {s t : List UInt8} : CallsS Tryz.prog w0 46 [.string ⟨s.toArray⟩, .string ⟨t.toArray⟩] As fun u Bs => ∃ b c, u = .func (.func 82) #[] #[.pointer (some ⟨b, 0, none⟩), .pointer (some ⟨c, 0, none⟩)] ∧ Bs = .cl c [.string ⟨t.toArray⟩] 29 :: .cl b [.string ⟨s.toArray⟩] 29 :: As := by
  refine CallsS.of_tri Tryz.func46 rfl Tryz.ntmps46 rfl ?_
  (repeat' (first | ((show TL _ _ _ _ (_ :: _) _ _ _; first | refine TL.fa ?_ | refine TL.ua ?_ | (refine TL.rba ?_; intro _) | (refine TL.rra ?_; first | rintro _ _ ⟨rfl, rfl⟩ | rintro _ _ rfl) | refine TL.offa ?_ | refine TL.off0a ?_ | refine TL.gu ?_ | fail)) | (first | refine Stp.h ?_ | refine Post.then_normal ?_ | refine Post.next ?_ | refine Post.block_other rfl ?_) | ((show Tri _ _ _ (.cond _ _ _) _ _ _; first | refine Tri.cTa ?_ | refine Tri.cFa ?_ | refine Tri.condTa ?_ | refine Tri.condFa ?_ | refine Tri.condNTa ?_ | refine Tri.condNFa ?_ | fail))))
  ((try refine Post.ret_normal ?_); first | refine Post.r1a ?_ | refine Post.r2a ?_ | refine Post.r3a ?_ | refine Post.r0a ?_ | fail)
  exact ⟨_, ⟨_, _, rfl, rfl⟩, by (exact Ents.au)⟩
theorem partsEnd_ok {s t : List UInt8} {b c : Nat} : CallsS Tryz.prog w0 82 [.string ⟨s.toArray⟩, .string ⟨t.toArray⟩, .int .i64 0, .pointer (some ⟨b, 0, none⟩), .pointer (some ⟨c, 0, none⟩)] (.cl c [.string ⟨t.toArray⟩] 29 :: .cl b [.string ⟨s.toArray⟩] 29 :: As) fun u Bs => u = .bool true ∧ Bs = .cl c [.string ⟨t.toArray⟩] 29 :: .cl b [.string ⟨s.toArray⟩] 29 :: As := by
  refine CallsS.of_tri Tryz.func82 rfl Tryz.ntmps82 rfl ?_
  have hs : (s = s) := rfl
  have ht : (t = t) := rfl
  (repeat' (first | ((show TL _ _ _ _ (_ :: _) _ _ _; first | refine TL.fa ?_ | refine TL.ua ?_ | (refine TL.rba ?_; intro _) | (refine TL.rra ?_; first | rintro _ _ ⟨rfl, rfl⟩ | rintro _ _ rfl) | refine TL.offa ?_ | refine TL.off0a ?_ | refine TL.gu ?_ | fail)) | (first | refine Stp.h ?_ | refine Post.then_normal ?_ | refine Post.next ?_ | refine Post.block_other rfl ?_) | ((show Tri _ _ _ (.cond _ _ _) _ _ _; first | refine Tri.cTa ?_ | refine Tri.cFa ?_ | refine Tri.condTa ?_ | refine Tri.condFa ?_ | refine Tri.condNTa ?_ | refine Tri.condNFa ?_ | fail))))
  ((try refine Post.ret_normal ?_); first | refine Post.r1a ?_ | refine Post.r2a ?_ | refine Post.r3a ?_ | refine Post.r0a ?_ | fail)
  exact ⟨_, ⟨by simp, rfl⟩, by (exact Ents.au)⟩
end Go.Proofs.YtfbhlfhecmhihaaGreatDoor
