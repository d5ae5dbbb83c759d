/- Walks: the law's helpers on fractions; closed answers, plain. -/
import Derived.Test.YtldljckhfcoafaaGreatDoorCc8
import Derived.Test.YtldljckhfcoafaaGreatDoorLa1
import Derived.Test.YtldljckhfcoafaaGreatDoorSxS
namespace Go.Proofs.YtldljckhfcoafaaGreatDoor.Q
open Go Go.Sx
theorem outF_read {n d : List UInt8} {r : Rat} (h : readF n d = some r) : outF r = (n, d, 0) := by
  obtain ⟨h1, h2⟩ := readF_num h
  exact Go.Sx.outF_of (outW_of h1) (outW_of h2) (text_readW h1) (text_readW h2)
theorem outO_lit {o : Option Rat} {n d : List UInt8} (h : o = readF n d) (h2 : (readF n d).isSome = true) : outO o = (n, d, 0) := by
  obtain ⟨r, hr⟩ := Option.isSome_iff_exists.1 h2
  rw [h, hr]; exact outF_read hr
theorem ofO_lit {x y : Int} {n d : List UInt8} (h0 : y ≠ 0) (h : readF n d = some (mkRat (if y < 0 then -x else x) y.natAbs)) : ofO x y = (n, d, 0) := by
  unfold ofO; rw [if_neg h0]; exact outF_read h
theorem divO_lit {a b : Option Rat} {n d : List UInt8} (h : (a.bind fun x => b.bind fun y => if y = 0 then none else some (x * y⁻¹)) = readF n d) (h2 : (readF n d).isSome = true) : divO a b = (n, d, 0) := by
  obtain ⟨r, hr⟩ := Option.isSome_iff_exists.1 h2
  rw [hr] at h
  cases a with
  | none => cases h
  | some x =>
    cases b with
    | none => cases h
    | some y =>
      simp only [Option.bind_some] at h
      unfold divO
      simp only
      split at h
      · cases h
      · rename_i h0
        rw [if_neg h0, Option.some.inj h]; exact outF_read hr
theorem clampO_lit {a b c : Option Rat} {n d : List UInt8} (h : (a.bind fun x => b.bind fun y => c.bind fun z => if z < y then none else some (minQ (maxQ x y) z)) = readF n d) (h2 : (readF n d).isSome = true) : clampO a b c = (n, d, 0) := by
  obtain ⟨r, hr⟩ := Option.isSome_iff_exists.1 h2
  rw [hr] at h
  cases a with
  | none => cases h
  | some x =>
    cases b with
    | none => cases h
    | some y =>
      cases c with
      | none => cases h
      | some z =>
        simp only [Option.bind_some] at h
        unfold clampO
        simp only
        split at h
        · cases h
        · rename_i h0
          rw [if_neg h0, Option.some.inj h]; exact outF_read hr
theorem powO_lit {a b l m : List UInt8} {n : Int} (h0 : (readF a b).isSome = true) (h1 : powW a n = (l, 0)) (h2 : powW b n = (m, 0)) : powO a b n = (l, m, 0) := by
  obtain ⟨r, hr⟩ := Option.isSome_iff_exists.1 h0
  unfold powO; rw [hr, h1, h2]; rfl
theorem parseO_lit {s n d : List UInt8} (h : (match parseQ s with | .inl r => some r | .inr _ => none) = readF n d) (h2 : (readF n d).isSome = true) : parseO (parseQ s) = (n, d, 0) := by
  obtain ⟨r, hr⟩ := Option.isSome_iff_exists.1 h2
  rw [hr] at h
  cases hq : parseQ s with
  | inl x => rw [hq] at h; rw [parseO, Option.some.inj h]; exact outF_read hr
  | inr e => rw [hq] at h; cases h
theorem parseO_err {s : List UInt8} {e : Int} (h : (match parseQ s with | .inl _ => none | .inr e => some e) = some e) : parseO (parseQ s) = ([], [], e) := by
  cases hq : parseQ s with
  | inl x => rw [hq] at h; cases h
  | inr e => rw [hq] at h; rw [parseO, Option.some.inj h]
theorem sumO_lit {l : List (List UInt8 × List UInt8)} {n d : List UInt8} (h0 : l.length ≤ 300) (h : (readL l).map (sumQ 0) = readF n d) (h2 : (readF n d).isSome = true) : sumO l = (n, d, 0) := by
  obtain ⟨r, hr⟩ := Option.isSome_iff_exists.1 h2
  rw [hr] at h
  unfold sumO
  rw [if_neg (by omega)]
  cases hl : readL l with
  | none => rw [hl] at h; cases h
  | some xs => rw [hl] at h; simp only [Option.map_some] at h; simp only; rw [Option.some.inj h]; exact outF_read hr
theorem textO_lit {o : Option Rat} {p z : Int} {dg t : List UInt8} (h1 : (o.map fun r => nearQ r (10 ^ p.toNat)) = some z) (h0 : 0 ≤ p ∧ p ≤ 20) (h2 : readW dg = some (z.natAbs : Int)) (h3 : (if z < 0 then [45] else []) ++ (if 0 < p.toNat then dotS (padS dg p.toNat) p.toNat else dg) = t) : textO o p = (t, 0) := by
  cases o with
  | none => cases h1
  | some r =>
    simp only [Option.map_some, Option.some.injEq] at h1
    rw [textO, if_pos h0, h1, fixT]
    have h4 := text_readW h2
    rw [textI_eq, if_neg (by omega), Int.natAbs_natCast] at h4
    rw [h4, h3]
/-- the floor's text -/
def floorT (o : Option Rat) : List UInt8 := match o with
  | some x => textI (x.num / (x.den : Int))
  | none => []
theorem floorT_lit {o : Option Rat} {l : List UInt8} {z : Int} (h : (o.map fun x => x.num / (x.den : Int)) = some z) (h2 : readW l = some z) : floorT o = l := by
  cases o with
  | none => cases h
  | some r =>
    simp only [Option.map_some, Option.some.injEq] at h
    rw [floorT, h]; exact text_readW h2
variable {w0 : World} {As : List Ent}
theorem floorT_ok (ht : Tab w0) {a b : List UInt8} (ha : a.length ≤ 1000000000) (hb : b.length ≤ 1000000000) :
    CallsS Tryz.prog w0 33 [.agg #[.string ⟨a.toArray⟩, .string ⟨b.toArray⟩]] As fun u Bs => u = .tuple #[.string ⟨(floorT (readF a b)).toArray⟩, .int .i64 (if (readF a b).isSome then 0 else 20)] ∧ Bs = As := by
  have h := floorF_ok (w0 := w0) (As := As) ht ha hb
  unfold floorT
  exact h
instance : TwoS Tryz.prog 24 := ⟨⟨_, _, _, _, (inferInstance : UL Tryz.prog 24 _).h, by decide, by decide, rfl, rfl, rfl, rfl, (inferInstance : UL Tryz.prog 22 .string).h, (inferInstance : UL Tryz.prog 22 .string).h⟩, by kernel_rfl, by kernel_rfl⟩
theorem q_ok (ht : Tab w0) {n d : Int} (hn : -9223372036854775808 ≤ n ∧ n ≤ 9223372036854775807) (hd : -9223372036854775808 ≤ d ∧ d ≤ 9223372036854775807) :
    CallsS Tryz.prog w0 28 [.int .i64 n, .int .i64 d] As fun u Bs => u = .agg #[.string ⟨(ofO n d).1.toArray⟩, .string ⟨(ofO n d).2.1.toArray⟩] ∧ Bs = As := by
  refine CallsS.of_tri Tryz.func28 rfl Tryz.ntmps28 rfl ?_
  (repeat' (first | (show TL _ _ _ _ (_ :: _) _ _ _; first | refine TL.sa ?_ | (refine TL.na ?_; intro _)) | (first | refine Stp.h ?_ | refine Post.then_normal ?_ | refine Post.next ?_ | refine Post.block_other rfl ?_) | refine Tri.ca ?_))
  refine TL.call rfl rfl rfl (ofF_ok ht hn hd) ?_
  rintro _ _ ⟨rfl, rfl⟩
  (repeat' (first | (show TL _ _ _ _ (_ :: _) _ _ _; first | refine TL.sa ?_ | (refine TL.na ?_; intro _)) | (first | refine Stp.h ?_ | refine Post.then_normal ?_ | refine Post.next ?_ | refine Post.block_other rfl ?_) | refine Tri.ca ?_))
  (refine Post.ra ?_)
  exact ⟨_, ⟨rfl, rfl⟩, by (exact Ents.au)⟩
theorem is_ok {s t : List UInt8} : CallsS Tryz.prog w0 30 [.string ⟨s.toArray⟩, .string ⟨t.toArray⟩] As fun u Bs => ∃ b c, u = .func (.func 86) #[] #[.pointer (some ⟨b, 0, none⟩), .pointer (some ⟨c, 0, none⟩)] ∧ Bs = .cl c [.string ⟨t.toArray⟩] 22 :: .cl b [.string ⟨s.toArray⟩] 22 :: As := by
  refine CallsS.of_tri Tryz.func30 rfl Tryz.ntmps30 rfl ?_
  (repeat' (first | (show TL _ _ _ _ (_ :: _) _ _ _; first | refine TL.sa ?_ | (refine TL.na ?_; intro _)) | (first | refine Stp.h ?_ | refine Post.then_normal ?_ | refine Post.next ?_ | refine Post.block_other rfl ?_) | refine Tri.ca ?_))
  (refine Post.ra ?_)
  exact ⟨_, ⟨_, _, rfl, rfl⟩, by (exact Ents.au)⟩
theorem isEnd_ok {s t : List UInt8} {b c : Nat} : CallsS Tryz.prog w0 86 [.agg #[.string ⟨s.toArray⟩, .string ⟨t.toArray⟩], .int .i64 0, .pointer (some ⟨b, 0, none⟩), .pointer (some ⟨c, 0, none⟩)] (.cl c [.string ⟨t.toArray⟩] 22 :: .cl b [.string ⟨s.toArray⟩] 22 :: As) fun u Bs => u = .bool true ∧ Bs = .cl c [.string ⟨t.toArray⟩] 22 :: .cl b [.string ⟨s.toArray⟩] 22 :: As := by
  refine CallsS.of_tri Tryz.func86 rfl Tryz.ntmps86 rfl ?_
  (repeat' (first | (show TL _ _ _ _ (_ :: _) _ _ _; first | refine TL.sa ?_ | (refine TL.na ?_; intro _)) | (first | refine Stp.h ?_ | refine Post.then_normal ?_ | refine Post.next ?_ | refine Post.block_other rfl ?_) | refine Tri.ca ?_))
  refine TL.f rfl rfl (ExF.eqlFr rfl rfl) ?_
  have hs : s = s ∧ t = t := ⟨rfl, rfl⟩
  (repeat' (first | (show TL _ _ _ _ (_ :: _) _ _ _; first | refine TL.sa ?_ | (refine TL.na ?_; intro _)) | (first | refine Stp.h ?_ | refine Post.then_normal ?_ | refine Post.next ?_ | refine Post.block_other rfl ?_) | refine Tri.ca ?_))
  (refine Post.ra ?_)
  exact ⟨_, ⟨by simp, rfl⟩, by (exact Ents.au)⟩
theorem fails_ok {n : Int} : CallsS Tryz.prog w0 27 [.int .i64 n] As fun u Bs => ∃ b, u = .func (.func 83) #[] #[.pointer (some ⟨b, 0, none⟩)] ∧ Bs = .cl b [.int .i64 n] 42 :: As := by
  refine CallsS.of_tri Tryz.func27 rfl Tryz.ntmps27 rfl ?_
  (repeat' (first | (show TL _ _ _ _ (_ :: _) _ _ _; first | refine TL.sa ?_ | (refine TL.na ?_; intro _)) | (first | refine Stp.h ?_ | refine Post.then_normal ?_ | refine Post.next ?_ | refine Post.block_other rfl ?_) | refine Tri.ca ?_))
  (refine Post.ra ?_)
  exact ⟨_, ⟨_, rfl, rfl⟩, by (exact Ents.au)⟩
theorem failsEnd_ok {n : Int} {b : Nat} : CallsS Tryz.prog w0 83 [.agg #[.string ⟨([] : List UInt8).toArray⟩, .string ⟨([] : List UInt8).toArray⟩], .int .i64 n, .pointer (some ⟨b, 0, none⟩)] (.cl b [.int .i64 n] 42 :: As) fun u Bs => u = .bool true ∧ Bs = .cl b [.int .i64 n] 42 :: As := by
  refine CallsS.of_tri Tryz.func83 rfl Tryz.ntmps83 rfl ?_
  (repeat' (first | (show TL _ _ _ _ (_ :: _) _ _ _; first | refine TL.sa ?_ | (refine TL.na ?_; intro _)) | (first | refine Stp.h ?_ | refine Post.then_normal ?_ | refine Post.next ?_ | refine Post.block_other rfl ?_) | refine Tri.ca ?_))
  refine TL.f rfl rfl (ExF.eqlFr rfl rfl) ?_
  have hs : ([] : List UInt8) = [] ∧ ([] : List UInt8) = [] := ⟨rfl, rfl⟩
  (repeat' (first | (show TL _ _ _ _ (_ :: _) _ _ _; first | refine TL.sa ?_ | (refine TL.na ?_; intro _)) | (first | refine Stp.h ?_ | refine Post.then_normal ?_ | refine Post.next ?_ | refine Post.block_other rfl ?_) | refine Tri.ca ?_))
  (refine Post.ra ?_)
  exact ⟨_, ⟨by simp, rfl⟩, by (exact Ents.au)⟩
theorem says_ok {n : Int} : CallsS Tryz.prog w0 44 [.int .i64 n] As fun u Bs => ∃ b, u = .func (.func 102) #[] #[.pointer (some ⟨b, 0, none⟩)] ∧ Bs = .cl b [.int .i64 n] 3 :: As := by
  refine CallsS.of_tri Tryz.func44 rfl Tryz.ntmps44 rfl ?_
  (repeat' (first | (show TL _ _ _ _ (_ :: _) _ _ _; first | refine TL.sa ?_ | (refine TL.na ?_; intro _)) | (first | refine Stp.h ?_ | refine Post.then_normal ?_ | refine Post.next ?_ | refine Post.block_other rfl ?_) | refine Tri.ca ?_))
  (refine Post.ra ?_)
  exact ⟨_, ⟨_, rfl, rfl⟩, by (exact Ents.au)⟩
theorem saysEnd_ok {n : Int} {b : Nat} : CallsS Tryz.prog w0 102 [.int .i64 n, .int .i64 0, .pointer (some ⟨b, 0, none⟩)] (.cl b [.int .i64 n] 3 :: As) fun u Bs => u = .bool true ∧ Bs = .cl b [.int .i64 n] 3 :: As := by
  refine CallsS.of_tri Tryz.func102 rfl Tryz.ntmps102 rfl ?_
  (repeat' (first | (show TL _ _ _ _ (_ :: _) _ _ _; first | refine TL.sa ?_ | (refine TL.na ?_; intro _)) | (first | refine Stp.h ?_ | refine Post.then_normal ?_ | refine Post.next ?_ | refine Post.block_other rfl ?_) | refine Tri.ca ?_))
  (refine Post.ra ?_)
  exact ⟨_, ⟨by simp, rfl⟩, by (exact Ents.au)⟩
theorem stops_ok {n : Int} : CallsS Tryz.prog w0 45 [.int .i64 n] As fun u Bs => ∃ b, u = .func (.func 103) #[] #[.pointer (some ⟨b, 0, none⟩)] ∧ Bs = .cl b [.int .i64 n] 42 :: As := by
  refine CallsS.of_tri Tryz.func45 rfl Tryz.ntmps45 rfl ?_
  (repeat' (first | (show TL _ _ _ _ (_ :: _) _ _ _; first | refine TL.sa ?_ | (refine TL.na ?_; intro _)) | (first | refine Stp.h ?_ | refine Post.then_normal ?_ | refine Post.next ?_ | refine Post.block_other rfl ?_) | refine Tri.ca ?_))
  (refine Post.ra ?_)
  exact ⟨_, ⟨_, rfl, rfl⟩, by (exact Ents.au)⟩
theorem stopsEnd_ok {n : Int} {b : Nat} : CallsS Tryz.prog w0 103 [.int .i64 0, .int .i64 n, .pointer (some ⟨b, 0, none⟩)] (.cl b [.int .i64 n] 42 :: As) fun u Bs => u = .bool true ∧ Bs = .cl b [.int .i64 n] 42 :: As := by
  refine CallsS.of_tri Tryz.func103 rfl Tryz.ntmps103 rfl ?_
  (repeat' (first | (show TL _ _ _ _ (_ :: _) _ _ _; first | refine TL.sa ?_ | (refine TL.na ?_; intro _)) | (first | refine Stp.h ?_ | refine Post.then_normal ?_ | refine Post.next ?_ | refine Post.block_other rfl ?_) | refine Tri.ca ?_))
  (refine Post.ra ?_)
  exact ⟨_, ⟨by simp, rfl⟩, by (exact Ents.au)⟩
theorem tells_ok {s : List UInt8} : CallsS Tryz.prog w0 32 [.string ⟨s.toArray⟩] As fun u Bs => ∃ b, u = .func (.func 88) #[] #[.pointer (some ⟨b, 0, none⟩)] ∧ Bs = .cl b [.string ⟨s.toArray⟩] 9 :: As := by
  refine CallsS.of_tri Tryz.func32 rfl Tryz.ntmps32 rfl ?_
  (repeat' (first | (show TL _ _ _ _ (_ :: _) _ _ _; first | refine TL.sa ?_ | (refine TL.na ?_; intro _)) | (first | refine Stp.h ?_ | refine Post.then_normal ?_ | refine Post.next ?_ | refine Post.block_other rfl ?_) | refine Tri.ca ?_))
  (refine Post.ra ?_)
  exact ⟨_, ⟨_, rfl, rfl⟩, by (exact Ents.au)⟩
theorem tellsEnd_ok {s : List UInt8} {b : Nat} : CallsS Tryz.prog w0 88 [.string ⟨s.toArray⟩, .int .i64 0, .pointer (some ⟨b, 0, none⟩)] (.cl b [.string ⟨s.toArray⟩] 9 :: As) fun u Bs => u = .bool true ∧ Bs = .cl b [.string ⟨s.toArray⟩] 9 :: As := by
  refine CallsS.of_tri Tryz.func88 rfl Tryz.ntmps88 rfl ?_
  have hs : (s = s) := rfl
  (repeat' (first | (show TL _ _ _ _ (_ :: _) _ _ _; first | refine TL.sa ?_ | (refine TL.na ?_; intro _)) | (first | refine Stp.h ?_ | refine Post.then_normal ?_ | refine Post.next ?_ | refine Post.block_other rfl ?_) | refine Tri.ca ?_))
  (refine Post.ra ?_)
  exact ⟨_, ⟨by simp, rfl⟩, by (exact Ents.au)⟩
end Go.Proofs.YtldljckhfcoafaaGreatDoor.Q
