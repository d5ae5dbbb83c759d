/- Walks: strings.Builder; strconv.Itoa, strings.CutPrefix, cmp.Compare in the engine's words. -/
import Derived.Test.YtldljckhfcoafaaGreatDoorTy
import Derived.Test.YtldljckhfcoafaaGreatDoorSx9
import Derived.Test.YtldljckhfcoafaaGreatDoorShelf
import Derived.Test.YtldljckhfcoafaaGreatDoorPl
namespace Go.Proofs.YtldljckhfcoafaaGreatDoor
open Go Go.Sx
variable {w0 : World} {As : List Ent}
instance : Same1 Tryz.prog 189 := ⟨fun x w => by
  rw [run_callFunc_extern Tryz.func189 (by kernel_rfl) (by kernel_rfl) (by kernel_rfl) (e := Extern.AbiNoEscape.same) (by kernel_rfl)]
  rfl⟩
instance : ElC Tryz.prog 5 UInt8 cU8 0 1 := ⟨by obtain ⟨i, h1, h2, h3, h4⟩ := (inferInstance : TI Tryz.prog 5 _ _ _).info; exact ⟨i, _, h1, h2, h3, h4, rfl⟩, by decide⟩
theorem CallsS.same {f : FuncId} {args : List Value} {v : Value} (h : ∀ w, Calls Tryz.prog f args.toArray w fun e w' => e = .returned v ∧ w' = w) : CallsS Tryz.prog w0 f args As fun u Bs => u = v ∧ Bs = As :=
  CallsS.mk fun w hs => (h w).mono fun en w' ⟨h1, h2⟩ => ⟨v, As, h1, ⟨rfl, rfl⟩, by rw [h2]; exact hs⟩
theorem cutPrefix_ok {s : List UInt8} : CallsS Tryz.prog w0 68 [.string ⟨s.toArray⟩, .string ⟨#[45]⟩] As fun u Bs => u = .tuple #[.string ⟨(Lib.trimPrefix s [45]).toArray⟩, .bool (Lib.hasPrefix s [45])] ∧ Bs = As :=
  CallsS.same fun w => Tryz.strings_CutPrefix ⟨s.toArray⟩ ⟨#[45]⟩ w
theorem compareInt_ok {x y : Int} : CallsS Tryz.prog w0 155 [.int .i64 x, .int .i64 y] As fun u Bs => u = .int .i64 (Lib.compareInt x y) ∧ Bs = As :=
  CallsS.same fun w => Tryz.cmp_Compare_int x y w
/-- the library's table of powers of ten, as its text lays it -/
def Tab (w : World) : Prop := Lib.TabIs Tryz.prog w "internal/strconv.uint64pow10" .u64 Lib.pow10Tab
theorem Tab.keep {w : World} (ht : Tab w0) (h : St w0 w As) : Tab w := by
  unfold Tab Lib.TabIs World.var? at *
  obtain ⟨g, hg, h1⟩ := Option.bind_eq_some_iff.1 ht
  rw [hg, Option.bind_some]
  cases ho : w0.heap[g]? with
  | none => rw [ho] at h1; cases h1
  | some o => rw [St.old h ho]; rw [ho] at h1; exact h1
theorem itoa_ok (ht : Tab w0) {n : Int} (h0 : -9223372036854775808 ≤ n) (h1 : n ≤ 9223372036854775807) : CallsS Tryz.prog w0 143 [.int .i64 n] As fun u Bs => u = .string ⟨(Lib.itoa n).toArray⟩ ∧ Bs = As :=
  CallsS.mk fun w hs => (Tryz.strconv_Itoa n h0 h1 w (ht.keep hs)).mono fun en w' ⟨h2, k, os, h3⟩ => ⟨_, As, h2, ⟨rfl, rfl⟩, by rw [h3]; exact hs.drewN.grow⟩

/-! strings.Builder -/
/-- block b is a builder with these bytes -/
def Bld (b : Nat) (bs : List UInt8) (As Bs : List Ent) : Prop := ∃ p bv, (p = .pointer none ∨ p = .pointer (some ⟨b, 0, none⟩)) ∧ Bs = .cl b [p, bv] 175 :: .ow cU8 5 bv bs :: As
theorem copyCheck_ok {b : Nat} {p bv : Value} (hp : p = .pointer none ∨ p = .pointer (some ⟨b, 0, none⟩)) : CallsS Tryz.prog w0 170 [.pointer (some ⟨b, 0, none⟩)] (.cl b [p, bv] 175 :: As) fun u Bs => u = .tuple #[] ∧ Bs = .cl b [.pointer (some ⟨b, 0, none⟩), bv] 175 :: As := by
  refine CallsS.of_tri Tryz.func170 rfl Tryz.ntmps170 rfl ?_
  rcases hp with rfl | rfl
  · (repeat' (first | (show TL _ _ _ _ (_ :: _) _ _ _; first | refine TL.sa ?_ | (refine TL.na ?_; intro _)) | (first | refine Stp.h ?_ | refine Post.then_normal ?_ | refine Post.next ?_ | refine Post.block_other rfl ?_) | refine Tri.ca ?_))
    refine TL.f rfl rfl (ExF.convPU (by decide) rfl (by exact Nat.zero_lt_succ 1)) ?_
    (repeat' (first | (show TL _ _ _ _ (_ :: _) _ _ _; first | refine TL.sa ?_ | (refine TL.na ?_; intro _)) | (first | refine Stp.h ?_ | refine Post.then_normal ?_ | refine Post.next ?_ | refine Post.block_other rfl ?_) | refine Tri.ca ?_))
    refine TL.f rfl rfl (ExF.convUP rfl (by kernel_rfl)) ?_
    (repeat' (first | (show TL _ _ _ _ (_ :: _) _ _ _; first | refine TL.sa ?_ | (refine TL.na ?_; intro _)) | (first | refine Stp.h ?_ | refine Post.then_normal ?_ | refine Post.next ?_ | refine Post.block_other rfl ?_) | refine Tri.ca ?_))
    (refine Post.ra ?_)
    exact ⟨_, ⟨rfl, rfl⟩, by (exact Ents.au)⟩
  · (repeat' (first | (show TL _ _ _ _ (_ :: _) _ _ _; first | refine TL.sa ?_ | (refine TL.na ?_; intro _)) | (first | refine Stp.h ?_ | refine Post.then_normal ?_ | refine Post.next ?_ | refine Post.block_other rfl ?_) | refine Tri.ca ?_))
    (refine Post.ra ?_)
    exact ⟨_, ⟨rfl, rfl⟩, by (exact Ents.au)⟩
theorem writeByte_ok {b : Nat} {p bv : Value} {bs : List UInt8} {c : UInt8} (hp : p = .pointer none ∨ p = .pointer (some ⟨b, 0, none⟩)) (hl : bs.length ≤ 1000000000) :
    CallsS Tryz.prog w0 144 [.pointer (some ⟨b, 0, none⟩), .int .u8 (c.toNat : Int)] (.cl b [p, bv] 175 :: .ow cU8 5 bv bs :: As) fun u Bs => u = .nilIface ∧ Bld b (bs ++ [c]) As Bs := by
  refine CallsS.of_tri Tryz.func144 rfl Tryz.ntmps144 rfl ?_
  (repeat' (first | (show TL _ _ _ _ (_ :: _) _ _ _; first | refine TL.sa ?_ | (refine TL.na ?_; intro _)) | (first | refine Stp.h ?_ | refine Post.then_normal ?_ | refine Post.next ?_ | refine Post.block_other rfl ?_) | refine Tri.ca ?_))
  refine TL.call rfl rfl rfl (copyCheck_ok hp) ?_
  rintro _ _ ⟨rfl, rfl⟩
  (repeat' (first | (show TL _ _ _ _ (_ :: _) _ _ _; first | refine TL.sa ?_ | (refine TL.na ?_; intro _)) | (first | refine Stp.h ?_ | refine Post.then_normal ?_ | refine Post.next ?_ | refine Post.block_other rfl ?_) | refine Tri.ca ?_))
  (refine Post.ra ?_)
  rename_i b1 v1
  exact ⟨_, ⟨rfl, _, v1, .inr rfl, rfl⟩, by (exact Ents.au)⟩
theorem writeString_ok {b : Nat} {p bv : Value} {bs s : List UInt8} (hp : p = .pointer none ∨ p = .pointer (some ⟨b, 0, none⟩)) (hl : bs.length ≤ 1000000000) (hs : s.length ≤ 1000000000) :
    CallsS Tryz.prog w0 135 [.pointer (some ⟨b, 0, none⟩), .string ⟨s.toArray⟩] (.cl b [p, bv] 175 :: .ow cU8 5 bv bs :: As) fun _ Bs => Bld b (bs ++ s) As Bs := by
  refine CallsS.of_tri Tryz.func135 rfl Tryz.ntmps135 rfl ?_
  (repeat' (first | (show TL _ _ _ _ (_ :: _) _ _ _; first | refine TL.sa ?_ | (refine TL.na ?_; intro _)) | (first | refine Stp.h ?_ | refine Post.then_normal ?_ | refine Post.next ?_ | refine Post.block_other rfl ?_) | refine Tri.ca ?_))
  refine TL.call rfl rfl rfl (copyCheck_ok hp) ?_
  rintro _ _ ⟨rfl, rfl⟩
  (repeat' (first | (show TL _ _ _ _ (_ :: _) _ _ _; first | refine TL.sa ?_ | (refine TL.na ?_; intro _)) | (first | refine Stp.h ?_ | refine Post.then_normal ?_ | refine Post.next ?_ | refine Post.block_other rfl ?_) | refine Tri.ca ?_))
  (refine Post.ra ?_)
  rename_i v1
  exact ⟨_, ⟨_, v1, .inr rfl, rfl⟩, by (exact Ents.au)⟩
theorem string_ok {b : Nat} {p bv : Value} {bs : List UInt8} (h0 : bs ≠ []) (hl : bs.length ≤ 1000000000) :
    CallsS Tryz.prog w0 137 [.pointer (some ⟨b, 0, none⟩)] (.cl b [p, bv] 175 :: .ow cU8 5 bv bs :: As) fun u Bs => u = .string ⟨bs.toArray⟩ ∧ Bs = As := by
  refine CallsS.of_tri Tryz.func137 rfl Tryz.ntmps137 rfl ?_
  (repeat' (first | (show TL _ _ _ _ (_ :: _) _ _ _; first | refine TL.sa ?_ | (refine TL.na ?_; intro _)) | (first | refine Stp.h ?_ | refine Post.then_normal ?_ | refine Post.next ?_ | refine Post.block_other rfl ?_) | refine Tri.ca ?_))
  refine Tri.dw [.cl b [p, bv] 175] [(9, .w bv)] (.take 0 (.take 1 (.take 2 (.take 3 (.take 5 (.take 6 (.take 7 (.take 8 (.take 9 (.all [(4, .all [(10, .take 11 (.done))])])))))))))) ?_
  (repeat' (first | (show TL _ _ _ _ (_ :: _) _ _ _; first | refine TL.sa ?_ | (refine TL.na ?_; intro _)) | (first | refine Stp.h ?_ | refine Post.then_normal ?_ | refine Post.next ?_ | refine Post.block_other rfl ?_) | (show TT _ _ _ _ _ _ _ _ _; refine TT.sa ?_) | exact TTs.nil | refine TTs.cons ?_ ?_ | (show T1 _ _ _ _ _ _ _ _ _ _; first | refine T1.sa ?_ | (refine T1.na ?_; intro _)) | (show TC _ _ _ _ _ _ _ _ _ _; first | refine TC.goa ?_ | refine TC.fina ?_) | refine Tri.ca ?_))
  refine T1.f rfl rfl rfl (ExF.sliceData rfl h0) ?_
  (repeat' (first | (show TL _ _ _ _ (_ :: _) _ _ _; first | refine TL.sa ?_ | (refine TL.na ?_; intro _)) | (first | refine Stp.h ?_ | refine Post.then_normal ?_ | refine Post.next ?_ | refine Post.block_other rfl ?_) | (show TT _ _ _ _ _ _ _ _ _; refine TT.sa ?_) | exact TTs.nil | refine TTs.cons ?_ ?_ | (show T1 _ _ _ _ _ _ _ _ _ _; first | refine T1.sa ?_ | (refine T1.na ?_; intro _)) | (show TC _ _ _ _ _ _ _ _ _ _; first | refine TC.goa ?_ | refine TC.fina ?_) | refine Tri.ca ?_))
  refine T1.rr rfl rfl rfl (ExR.unsafeString rfl rfl h0 (by kernel_rfl) (by omega)) ?_
  rintro _ _ ⟨rfl, rfl⟩
  (repeat' (first | (show TL _ _ _ _ (_ :: _) _ _ _; first | refine TL.sa ?_ | (refine TL.na ?_; intro _)) | (first | refine Stp.h ?_ | refine Post.then_normal ?_ | refine Post.next ?_ | refine Post.block_other rfl ?_) | (show TT _ _ _ _ _ _ _ _ _; refine TT.sa ?_) | exact TTs.nil | refine TTs.cons ?_ ?_ | (show T1 _ _ _ _ _ _ _ _ _ _; first | refine T1.sa ?_ | (refine T1.na ?_; intro _)) | (show TC _ _ _ _ _ _ _ _ _ _; first | refine TC.goa ?_ | refine TC.fina ?_) | refine Tri.ca ?_))
  (refine Post.ra ?_)
  exact ⟨_, ⟨rfl, rfl⟩, by (exact Ents.au)⟩
end Go.Proofs.YtldljckhfcoafaaGreatDoor
