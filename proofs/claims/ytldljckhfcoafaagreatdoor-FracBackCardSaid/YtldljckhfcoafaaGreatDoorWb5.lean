/- Walks: whole numbers: the operations of the layer. Walks: whole numbers: the functions of the layer. Walks: whole numbers: quotients, powers, roots, integers. Walks: whole numbers: quotients. -/
import Derived.Test.YtldljckhfcoafaaGreatDoorWb1
import Derived.Test.YtldljckhfcoafaaGreatDoorPl
import Derived.Below
namespace Go.Sx
open Go
theorem St.below {w0 w w' : World} {As : List Ent} (h : St w0 w As) (hb : RowKit.Below w.heap.size w w') : St w0 w' As := by
  obtain ⟨H, bs, g⟩ := h
  refine ⟨H, bs, Nat.le_trans g.size hb.size, hb.os.trans g.os, hb.tape.trans g.tape, hb.output.trans g.output, fun b o hbo => ?_, g.old, Sat.move (FH.le_refl H) g.sat fun b hm => hb.block b (g.sat.lt b hm), g.nd, g.ap⟩
  have h1 := g.fz b o hbo
  rw [hb.block b (Array.getElem?_eq_some_iff.1 h1).1]; exact h1
end Go.Sx
namespace Go.Proofs.YtldljckhfcoafaaGreatDoor
open Go Go.Sx
variable {w0 : World} {As : List Ent}
end Go.Proofs.YtldljckhfcoafaaGreatDoor
namespace Go.Proofs.YtldljckhfcoafaaGreatDoor
open Go Go.Sx
variable {w0 : World} {As : List Ent}
theorem check_okW {s : List UInt8} (hs : s.length ≤ 1000000000) : CallsS Tryz.prog w0 91 [.string ⟨s.toArray⟩] As fun u Bs => u = .int .i64 (checkW s) ∧ Bs = As := by
  refine CallsS.of_tri Tryz.func91 rfl Tryz.ntmps91 rfl ?_
  (repeat' (first | (show TL _ _ _ _ (_ :: _) _ _ _; first | refine TL.sa ?_ | (refine TL.na ?_; intro _)) | (first | refine Stp.h ?_ | refine Post.then_normal ?_ | refine Post.next ?_ | refine Post.block_other rfl ?_) | refine Tri.ca ?_))
  refine TL.call rfl rfl rfl (read_ok hs) ?_
  rintro _ _ ⟨p, cap, rfl, rfl⟩
  unfold checkW
  cases h1 : readW s with
  | none =>
    (repeat' (first | (show TL _ _ _ _ (_ :: _) _ _ _; first | refine TL.sa ?_ | (refine TL.na ?_; intro _)) | (first | refine Stp.h ?_ | refine Post.then_normal ?_ | refine Post.next ?_ | refine Post.block_other rfl ?_) | refine Tri.ca ?_))
    (refine Post.ra ?_)
    exact ⟨_, ⟨rfl, rfl⟩, by (exact Ents.au)⟩
  | some x =>
    (repeat' (first | (show TL _ _ _ _ (_ :: _) _ _ _; first | refine TL.sa ?_ | (refine TL.na ?_; intro _)) | (first | refine Stp.h ?_ | refine Post.then_normal ?_ | refine Post.next ?_ | refine Post.block_other rfl ?_) | refine Tri.ca ?_))
    (refine Post.ra ?_)
    exact ⟨_, ⟨rfl, rfl⟩, by (exact Ents.au)⟩
end Go.Proofs.YtldljckhfcoafaaGreatDoor
namespace Go.Proofs.YtldljckhfcoafaaGreatDoor
open Go Go.Sx
variable {w0 : World} {As : List Ent}
theorem pow_ok (ht : Tab w0) {s : List UInt8} {n : Int} (hs : s.length ≤ 1000000000) (hn0 : -9223372036854775808 ≤ n) (hn1 : n ≤ 9223372036854775807) :
    CallsS Tryz.prog w0 50 [.string ⟨s.toArray⟩, .int .i64 n] As fun u Bs => u = .tuple #[.string ⟨(powW s n).1.toArray⟩, .int .i64 (powW s n).2] ∧ Bs = As := by
  refine CallsS.of_tri Tryz.func50 rfl Tryz.ntmps50 rfl ?_
  (repeat' (first | (show TL _ _ _ _ (_ :: _) _ _ _; first | refine TL.sa ?_ | (refine TL.na ?_; intro _)) | (first | refine Stp.h ?_ | refine Post.then_normal ?_ | refine Post.next ?_ | refine Post.block_other rfl ?_) | refine Tri.ca ?_))
  refine TL.call rfl rfl rfl (read_ok hs) ?_
  rintro _ _ ⟨p, cap, rfl, rfl⟩
  unfold powW
  cases h1 : readW s with
  | none =>
    (repeat' (first | (show TL _ _ _ _ (_ :: _) _ _ _; first | refine TL.sa ?_ | (refine TL.na ?_; intro _)) | (first | refine Stp.h ?_ | refine Post.then_normal ?_ | refine Post.next ?_ | refine Post.block_other rfl ?_) | refine Tri.ca ?_))
    (refine Post.ra ?_)
    exact ⟨_, ⟨rfl, rfl⟩, by (exact Ents.au)⟩
  | some x =>
    simp only [Option.isSome_some, Option.getD_some]
    have l1 := readW_len h1
    by_cases ho : n < 0 ∨ 40 < n
    · rw [if_pos ho]
      by_cases hn : n < 0
      · (repeat' (first | (show TL _ _ _ _ (_ :: _) _ _ _; first | refine TL.sa ?_ | (refine TL.na ?_; intro _)) | (first | refine Stp.h ?_ | refine Post.then_normal ?_ | refine Post.next ?_ | refine Post.block_other rfl ?_) | refine Tri.ca ?_))
        (refine Post.ra ?_)
        exact ⟨_, ⟨rfl, rfl⟩, by (exact Ents.au)⟩
      · have hn40 : 40 < n := by omega
        (repeat' (first | (show TL _ _ _ _ (_ :: _) _ _ _; first | refine TL.sa ?_ | (refine TL.na ?_; intro _)) | (first | refine Stp.h ?_ | refine Post.then_normal ?_ | refine Post.next ?_ | refine Post.block_other rfl ?_) | refine Tri.ca ?_))
        (refine Post.ra ?_)
        exact ⟨_, ⟨rfl, rfl⟩, by (exact Ents.au)⟩
    · rw [if_neg ho]
      obtain ⟨k, rfl⟩ : ∃ k : Nat, n = (k : Int) := ⟨n.toNat, by omega⟩
      rw [Int.toNat_natCast]
      have hk : k ≤ 40 := by omega
      have hL : (mag x.natAbs).length * k ≤ 600 * 40 := Nat.mul_le_mul l1 hk
      have hpw := mag_len_pw x.natAbs k
      obtain ⟨e1, e2⟩ := pow_sign x k
      have hzb : (decide (x < 0) && decide ((k : Int) % 2 = 1) && decide (x.natAbs ^ k ≠ 0)) = decide (x ^ k < 0) := by
        rw [Bool.eq_iff_iff, decide_eq_true_eq, e2, ← e1]
        simp only [Bool.and_eq_true, decide_eq_true_eq]
        constructor
        · rintro ⟨⟨h3, h4⟩, _⟩; exact ⟨h3, by omega⟩
        · intro h; have := e2.2 h; exact ⟨⟨h.1, by omega⟩, by omega⟩
      rw [← e1] at hpw hzb
      have hpw0 : mag (x.natAbs ^ k) = mag (x ^ k).natAbs := by rw [e1]
      (repeat' (first | (show TL _ _ _ _ (_ :: _) _ _ _; first | refine TL.sa ?_ | (refine TL.na ?_; intro _)) | (first | refine Stp.h ?_ | refine Post.then_normal ?_ | refine Post.next ?_ | refine Post.block_other rfl ?_) | refine Tri.ca ?_))
      by_cases hx : x < 0
      all_goals
        refine Tri.dr (.take 0 (.take 1 (.take 2 (.take 4 (.take 5 (.all [(3, .take 6 (.take 7 (.take 8 (.take 9 (.take 10 (.all [(11, .all [(12, .take 13 (.take 14 (.take 15 (.take 16 (.done)))))])]))))))])))))) ?_
        (repeat' (first | (show TL _ _ _ _ (_ :: _) _ _ _; first | refine TL.sa ?_ | (refine TL.na ?_; intro _)) | (first | refine Stp.h ?_ | refine Post.then_normal ?_ | refine Post.next ?_ | refine Post.block_other rfl ?_) | (show TT _ _ _ _ _ _ _ _ _; refine TT.sa ?_) | exact TTs.nil | refine TTs.cons ?_ ?_ | (show T1 _ _ _ _ _ _ _ _ _ _; first | refine T1.sa ?_ | (refine T1.na ?_; intro _)) | (show TC _ _ _ _ _ _ _ _ _ _; first | refine TC.goa ?_ | refine TC.fina ?_) | refine Tri.ca ?_))
        refine T1.call rfl rfl rfl rfl (power_ok (x := x.natAbs) (n := k) (by omega) (by omega) (by omega)) ?_
        rintro _ _ ⟨p', cap', rfl, rfl⟩
        rw [hpw0]
        (repeat' (first | (show TL _ _ _ _ (_ :: _) _ _ _; first | refine TL.sa ?_ | (refine TL.na ?_; intro _)) | (first | refine Stp.h ?_ | refine Post.then_normal ?_ | refine Post.next ?_ | refine Post.block_other rfl ?_) | (show TT _ _ _ _ _ _ _ _ _; refine TT.sa ?_) | exact TTs.nil | refine TTs.cons ?_ ?_ | (show T1 _ _ _ _ _ _ _ _ _ _; first | refine T1.sa ?_ | (refine T1.na ?_; intro _)) | (show TC _ _ _ _ _ _ _ _ _ _; first | refine TC.goa ?_ | refine TC.fina ?_) | refine Tri.ca ?_))
        refine T1.call rfl rfl rfl rfl (of_ok (n := (x ^ k).natAbs)) ?_
        rintro _ _ ⟨rfl, rfl⟩
        simp only [hx, decide_true, decide_false, Bool.true_and, Bool.false_and] at hzb
        try rw [Bool.false_and]
        rw [hzb]
        (repeat' (first | (show TL _ _ _ _ (_ :: _) _ _ _; first | refine TL.sa ?_ | (refine TL.na ?_; intro _)) | (first | refine Stp.h ?_ | refine Post.then_normal ?_ | refine Post.next ?_ | refine Post.block_other rfl ?_) | (show TT _ _ _ _ _ _ _ _ _; refine TT.sa ?_) | exact TTs.nil | refine TTs.cons ?_ ?_ | (show T1 _ _ _ _ _ _ _ _ _ _; first | refine T1.sa ?_ | (refine T1.na ?_; intro _)) | (show TC _ _ _ _ _ _ _ _ _ _; first | refine TC.goa ?_ | refine TC.fina ?_) | refine Tri.ca ?_))
        refine T1.call rfl rfl rfl rfl (write_ok ht (z := x ^ k) (by omega)) ?_
        rintro _ _ ⟨rfl, rfl⟩
        (repeat' (first | (show TL _ _ _ _ (_ :: _) _ _ _; first | refine TL.sa ?_ | (refine TL.na ?_; intro _)) | (first | refine Stp.h ?_ | refine Post.then_normal ?_ | refine Post.next ?_ | refine Post.block_other rfl ?_) | (show TT _ _ _ _ _ _ _ _ _; refine TT.sa ?_) | exact TTs.nil | refine TTs.cons ?_ ?_ | (show T1 _ _ _ _ _ _ _ _ _ _; first | refine T1.sa ?_ | (refine T1.na ?_; intro _)) | (show TC _ _ _ _ _ _ _ _ _ _; first | refine TC.goa ?_ | refine TC.fina ?_) | refine Tri.ca ?_))
        (refine Post.ra ?_)
        exact ⟨_, ⟨rfl, rfl⟩, by (exact Ents.au)⟩
instance : IfT Tryz.prog 178 := ⟨_, Tryz.underlying178⟩
/-- the library's variable for numbers out of range, as its text lays it -/
def ErrR (w : World) : Prop := ∃ ev, w.cell? ⟨4, 0, none⟩ = some ev ∧ (ev = .nilIface ∨ ∃ te pe, ev = .iface te pe)
theorem ErrR.keep {w : World} (he : ErrR w0) (h : St w0 w As) : ErrR w := by
  obtain ⟨ev, h1, h2⟩ := he
  refine ⟨ev, ?_, h2⟩
  simp only [World.cell?] at h1 ⊢
  cases ho : w0.heap[4]? with
  | none => rw [ho] at h1; cases h1
  | some o => rw [St.old h ho]; rw [ho] at h1; exact h1
theorem parse_ok {s : List UInt8} {z : Int} (hr : readW s = some z) (h : -9223372036854775808 ≤ z ∧ z ≤ 9223372036854775807) (hs : s.length ≤ 1000000000) :
    CallsS Tryz.prog w0 148 [.string ⟨s.toArray⟩, .int .i64 10, .int .i64 64] As fun u Bs => u = .tuple #[.int .i64 z, .nilIface] ∧ Bs = As :=
  CallsS.mk fun w hst => (Tryz.strconv_ParseInt_10_at64_ok ⟨s.toArray⟩ (by show s.toArray.size ≤ _; simp; omega) z (by rw [show (⟨s.toArray⟩ : ByteArray).data.toList = s from rfl, parseInt_of hr, if_pos h]) w).mono fun en w' ⟨h1, h2⟩ => by
    refine ⟨_, As, h1, ⟨rfl, rfl⟩, ?_⟩
    rcases h2 with rfl | ⟨t, rfl⟩
    · exact hst
    · exact hst.below (Lib.bytesWorld_below _ _ _)
theorem parseBig_ok (he : ErrR w0) {s : List UInt8} {z : Int} (hr : readW s = some z) (h : ¬ (-9223372036854775808 ≤ z ∧ z ≤ 9223372036854775807)) (hs : s.length ≤ 1000000000) :
    CallsS Tryz.prog w0 148 [.string ⟨s.toArray⟩, .int .i64 10, .int .i64 64] As fun u Bs => (∃ n t p, u = .tuple #[.int .i64 n, .iface t p]) ∧ Bs = As :=
  CallsS.mk fun w hst => by
    obtain ⟨ev, h1, h2⟩ := he.keep hst
    refine (Tryz.strconv_ParseInt_10_at64_range ⟨s.toArray⟩ (by show s.toArray.size ≤ _; simp; omega) (by rw [show (⟨s.toArray⟩ : ByteArray).data.toList = s from rfl, parseInt_of hr, if_neg h]) ev w h1 h2).mono fun en w' ⟨N, k1, _, _, k4⟩ => ?_
    exact ⟨_, As, k1, ⟨⟨_, _, _, rfl⟩, rfl⟩, hst.below k4⟩
theorem int_ok (he : ErrR w0) {s : List UInt8} (hs : s.length ≤ 1000000000) : CallsS Tryz.prog w0 95 [.string ⟨s.toArray⟩] As fun u Bs => u = .tuple #[.int .i64 (intW s).1, .int .i64 (intW s).2] ∧ Bs = As := by
  refine CallsS.of_tri Tryz.func95 rfl Tryz.ntmps95 rfl ?_
  (repeat' (first | (show TL _ _ _ _ (_ :: _) _ _ _; first | refine TL.sa ?_ | (refine TL.na ?_; intro _)) | (first | refine Stp.h ?_ | refine Post.then_normal ?_ | refine Post.next ?_ | refine Post.block_other rfl ?_) | refine Tri.ca ?_))
  refine TL.call rfl rfl rfl (check_okW hs) ?_
  rintro _ _ ⟨rfl, rfl⟩
  unfold intW checkW
  cases h1 : readW s with
  | none =>
    simp only [Option.isSome_none, Bool.false_eq_true, if_false]
    (repeat' (first | (show TL _ _ _ _ (_ :: _) _ _ _; first | refine TL.sa ?_ | (refine TL.na ?_; intro _)) | (first | refine Stp.h ?_ | refine Post.then_normal ?_ | refine Post.next ?_ | refine Post.block_other rfl ?_) | refine Tri.ca ?_))
    (refine Post.ra ?_)
    exact ⟨_, ⟨rfl, rfl⟩, by (exact Ents.au)⟩
  | some x =>
    simp only [Option.isSome_some, if_true]
    by_cases hx : -9223372036854775808 ≤ x ∧ x ≤ 9223372036854775807
    · rw [if_pos hx]
      (repeat' (first | (show TL _ _ _ _ (_ :: _) _ _ _; first | refine TL.sa ?_ | (refine TL.na ?_; intro _)) | (first | refine Stp.h ?_ | refine Post.then_normal ?_ | refine Post.next ?_ | refine Post.block_other rfl ?_) | refine Tri.ca ?_))
      refine TL.call rfl rfl rfl (parse_ok h1 hx hs) ?_
      rintro _ _ ⟨rfl, rfl⟩
      (repeat' (first | (show TL _ _ _ _ (_ :: _) _ _ _; first | refine TL.sa ?_ | (refine TL.na ?_; intro _)) | (first | refine Stp.h ?_ | refine Post.then_normal ?_ | refine Post.next ?_ | refine Post.block_other rfl ?_) | refine Tri.ca ?_))
      refine TL.f rfl rfl (ExF.neqNil rfl) ?_
      (repeat' (first | (show TL _ _ _ _ (_ :: _) _ _ _; first | refine TL.sa ?_ | (refine TL.na ?_; intro _)) | (first | refine Stp.h ?_ | refine Post.then_normal ?_ | refine Post.next ?_ | refine Post.block_other rfl ?_) | refine Tri.ca ?_))
      (refine Post.ra ?_)
      exact ⟨_, ⟨rfl, rfl⟩, by (exact Ents.au)⟩
    · rw [if_neg hx]
      (repeat' (first | (show TL _ _ _ _ (_ :: _) _ _ _; first | refine TL.sa ?_ | (refine TL.na ?_; intro _)) | (first | refine Stp.h ?_ | refine Post.then_normal ?_ | refine Post.next ?_ | refine Post.block_other rfl ?_) | refine Tri.ca ?_))
      refine TL.call rfl rfl rfl (parseBig_ok he h1 hx hs) ?_
      rintro _ _ ⟨⟨n, t, p, rfl⟩, rfl⟩
      (repeat' (first | (show TL _ _ _ _ (_ :: _) _ _ _; first | refine TL.sa ?_ | (refine TL.na ?_; intro _)) | (first | refine Stp.h ?_ | refine Post.then_normal ?_ | refine Post.next ?_ | refine Post.block_other rfl ?_) | refine Tri.ca ?_))
      refine TL.f rfl rfl (ExF.neqHeld rfl) ?_
      (repeat' (first | (show TL _ _ _ _ (_ :: _) _ _ _; first | refine TL.sa ?_ | (refine TL.na ?_; intro _)) | (first | refine Stp.h ?_ | refine Post.then_normal ?_ | refine Post.next ?_ | refine Post.block_other rfl ?_) | refine Tri.ca ?_))
      (refine Post.ra ?_)
      exact ⟨_, ⟨rfl, rfl⟩, by (exact Ents.au)⟩
end Go.Proofs.YtldljckhfcoafaaGreatDoor
namespace Go.Sx
open Go
end Go.Sx
namespace Go.Proofs.YtldljckhfcoafaaGreatDoor
open Go Go.Sx
variable {w0 : World} {As : List Ent}
end Go.Proofs.YtldljckhfcoafaaGreatDoor
