/- Walks: frac: the functions of the layer. -/
import Derived.Test.YtldljckhfcoafaaGreatDoorCc3
import Derived.Test.YtldljckhfcoafaaGreatDoorWb5
namespace Go.Proofs.YtldljckhfcoafaaGreatDoor.Q
open Go Go.Sx
variable {w0 : World} {As : List Ent}
theorem ap2_some {α : Type} {F : Rat → Rat → α} {a b : Option Rat} {r : α} (h : ap2 F a b = some r) : ∃ x y, a = some x ∧ b = some y ∧ r = F x y := by
  cases a with
  | none => cases h
  | some x =>
    cases b with
    | none => cases h
    | some y => exact ⟨x, y, rfl, rfl, (Option.some.inj h).symm⟩
/-- a quotient, or an error -/
def divO (a b : Option Rat) : List UInt8 × List UInt8 × Int := match a, b with
  | some x, some y => if y = 0 then ([], [], 7) else outF (x * y⁻¹)
  | _, _ => ([], [], 20)
theorem addF_ok (ht : Tab w0) {a b c d : List UInt8} (ha : a.length ≤ 1000000000) (hb : b.length ≤ 1000000000) (hc : c.length ≤ 1000000000) (hd : d.length ≤ 1000000000) :
    CallsS Tryz.prog w0 22 [.agg #[.string ⟨a.toArray⟩, .string ⟨b.toArray⟩], .agg #[.string ⟨c.toArray⟩, .string ⟨d.toArray⟩]] As fun u Bs => u = .tuple #[.agg #[.string ⟨(outO (ap2 (· + ·) (readF a b) (readF c d))).1.toArray⟩, .string ⟨(outO (ap2 (· + ·) (readF a b) (readF c d))).2.1.toArray⟩], .int .i64 (outO (ap2 (· + ·) (readF a b) (readF c d))).2.2] ∧ Bs = As := by
  refine CallsS.of_tri Tryz.func22 rfl Tryz.ntmps22 rfl ?_
  (repeat' (first | (show TL _ _ _ _ (_ :: _) _ _ _; first | refine TL.sa ?_ | (refine TL.na ?_; intro _)) | (first | refine Stp.h ?_ | refine Post.then_normal ?_ | refine Post.next ?_ | refine Post.block_other rfl ?_) | refine Tri.ca ?_))
  refine TL.call rfl rfl rfl (applyR_ok (f := 78) (F := (· + ·)) (fun _ _ _ _ _ _ _ _ _ _ _ h1 h2 => add_ok (h1.mono (by omega)) (h2.mono (by omega))) ha hb hc hd) ?_
  intro u Bs h
  have hl : ∀ r, ap2 (· + ·) (readF a b) (readF c d) = some r → Ln 1000000 r := fun r hr => by
    obtain ⟨x, y, h1, h2, rfl⟩ := ap2_some hr
    have hx := readF_ln h1
    have hy := readF_ln h2
    exact ((hx.add hy).mono (by omega))
  generalize ap2 (· + ·) (readF a b) (readF c d) = r at h hl ⊢
  cases r with
  | none =>
    obtain ⟨rfl, rfl⟩ := h
    (repeat' (first | (show TL _ _ _ _ (_ :: _) _ _ _; first | refine TL.sa ?_ | (refine TL.na ?_; intro _)) | (first | refine Stp.h ?_ | refine Post.then_normal ?_ | refine Post.next ?_ | refine Post.block_other rfl ?_) | refine Tri.ca ?_))
    refine TL.call rfl rfl rfl resultE_ok ?_
    rintro _ _ ⟨rfl, rfl⟩
    (repeat' (first | (show TL _ _ _ _ (_ :: _) _ _ _; first | refine TL.sa ?_ | (refine TL.na ?_; intro _)) | (first | refine Stp.h ?_ | refine Post.then_normal ?_ | refine Post.next ?_ | refine Post.block_other rfl ?_) | refine Tri.ca ?_))
    (refine Post.ra ?_)
    exact ⟨_, ⟨rfl, rfl⟩, by (exact Ents.au)⟩
  | some x =>
    obtain ⟨p1, c1, p2, c2, rfl, rfl⟩ := h
    (repeat' (first | (show TL _ _ _ _ (_ :: _) _ _ _; first | refine TL.sa ?_ | (refine TL.na ?_; intro _)) | (first | refine Stp.h ?_ | refine Post.then_normal ?_ | refine Post.next ?_ | refine Post.block_other rfl ?_) | refine Tri.ca ?_))
    refine TL.callv rfl rfl rfl rfl (resultS_ok ht (mv := .slice p1 (mag x.num.natAbs).length c1) (bv := .slice p2 (mag x.den).length c2) (hl x rfl)) ?_
    rintro _ _ ⟨rfl, rfl⟩
    (repeat' (first | (show TL _ _ _ _ (_ :: _) _ _ _; first | refine TL.sa ?_ | (refine TL.na ?_; intro _)) | (first | refine Stp.h ?_ | refine Post.then_normal ?_ | refine Post.next ?_ | refine Post.block_other rfl ?_) | refine Tri.ca ?_))
    (refine Post.ra ?_)
    exact ⟨_, ⟨rfl, rfl⟩, by (exact Ents.au)⟩
theorem subF_ok (ht : Tab w0) {a b c d : List UInt8} (ha : a.length ≤ 1000000000) (hb : b.length ≤ 1000000000) (hc : c.length ≤ 1000000000) (hd : d.length ≤ 1000000000) :
    CallsS Tryz.prog w0 23 [.agg #[.string ⟨a.toArray⟩, .string ⟨b.toArray⟩], .agg #[.string ⟨c.toArray⟩, .string ⟨d.toArray⟩]] As fun u Bs => u = .tuple #[.agg #[.string ⟨(outO (ap2 (· - ·) (readF a b) (readF c d))).1.toArray⟩, .string ⟨(outO (ap2 (· - ·) (readF a b) (readF c d))).2.1.toArray⟩], .int .i64 (outO (ap2 (· - ·) (readF a b) (readF c d))).2.2] ∧ Bs = As := by
  refine CallsS.of_tri Tryz.func23 rfl Tryz.ntmps23 rfl ?_
  (repeat' (first | (show TL _ _ _ _ (_ :: _) _ _ _; first | refine TL.sa ?_ | (refine TL.na ?_; intro _)) | (first | refine Stp.h ?_ | refine Post.then_normal ?_ | refine Post.next ?_ | refine Post.block_other rfl ?_) | refine Tri.ca ?_))
  refine TL.call rfl rfl rfl (applyR_ok (f := 79) (F := (· - ·)) (fun _ _ _ _ _ _ _ _ _ _ _ h1 h2 => sub_ok (h1.mono (by omega)) (h2.mono (by omega))) ha hb hc hd) ?_
  intro u Bs h
  have hl : ∀ r, ap2 (· - ·) (readF a b) (readF c d) = some r → Ln 1000000 r := fun r hr => by
    obtain ⟨x, y, h1, h2, rfl⟩ := ap2_some hr
    have hx := readF_ln h1
    have hy := readF_ln h2
    exact ((by rw [Rat.sub_eq_add_neg]; exact hx.add hy.neg : Ln (600 + 600 + 1) (x - y)).mono (by omega))
  generalize ap2 (· - ·) (readF a b) (readF c d) = r at h hl ⊢
  cases r with
  | none =>
    obtain ⟨rfl, rfl⟩ := h
    (repeat' (first | (show TL _ _ _ _ (_ :: _) _ _ _; first | refine TL.sa ?_ | (refine TL.na ?_; intro _)) | (first | refine Stp.h ?_ | refine Post.then_normal ?_ | refine Post.next ?_ | refine Post.block_other rfl ?_) | refine Tri.ca ?_))
    refine TL.call rfl rfl rfl resultE_ok ?_
    rintro _ _ ⟨rfl, rfl⟩
    (repeat' (first | (show TL _ _ _ _ (_ :: _) _ _ _; first | refine TL.sa ?_ | (refine TL.na ?_; intro _)) | (first | refine Stp.h ?_ | refine Post.then_normal ?_ | refine Post.next ?_ | refine Post.block_other rfl ?_) | refine Tri.ca ?_))
    (refine Post.ra ?_)
    exact ⟨_, ⟨rfl, rfl⟩, by (exact Ents.au)⟩
  | some x =>
    obtain ⟨p1, c1, p2, c2, rfl, rfl⟩ := h
    (repeat' (first | (show TL _ _ _ _ (_ :: _) _ _ _; first | refine TL.sa ?_ | (refine TL.na ?_; intro _)) | (first | refine Stp.h ?_ | refine Post.then_normal ?_ | refine Post.next ?_ | refine Post.block_other rfl ?_) | refine Tri.ca ?_))
    refine TL.callv rfl rfl rfl rfl (resultS_ok ht (mv := .slice p1 (mag x.num.natAbs).length c1) (bv := .slice p2 (mag x.den).length c2) (hl x rfl)) ?_
    rintro _ _ ⟨rfl, rfl⟩
    (repeat' (first | (show TL _ _ _ _ (_ :: _) _ _ _; first | refine TL.sa ?_ | (refine TL.na ?_; intro _)) | (first | refine Stp.h ?_ | refine Post.then_normal ?_ | refine Post.next ?_ | refine Post.block_other rfl ?_) | refine Tri.ca ?_))
    (refine Post.ra ?_)
    exact ⟨_, ⟨rfl, rfl⟩, by (exact Ents.au)⟩
theorem mulF_ok (ht : Tab w0) {a b c d : List UInt8} (ha : a.length ≤ 1000000000) (hb : b.length ≤ 1000000000) (hc : c.length ≤ 1000000000) (hd : d.length ≤ 1000000000) :
    CallsS Tryz.prog w0 25 [.agg #[.string ⟨a.toArray⟩, .string ⟨b.toArray⟩], .agg #[.string ⟨c.toArray⟩, .string ⟨d.toArray⟩]] As fun u Bs => u = .tuple #[.agg #[.string ⟨(outO (ap2 (· * ·) (readF a b) (readF c d))).1.toArray⟩, .string ⟨(outO (ap2 (· * ·) (readF a b) (readF c d))).2.1.toArray⟩], .int .i64 (outO (ap2 (· * ·) (readF a b) (readF c d))).2.2] ∧ Bs = As := by
  refine CallsS.of_tri Tryz.func25 rfl Tryz.ntmps25 rfl ?_
  (repeat' (first | (show TL _ _ _ _ (_ :: _) _ _ _; first | refine TL.sa ?_ | (refine TL.na ?_; intro _)) | (first | refine Stp.h ?_ | refine Post.then_normal ?_ | refine Post.next ?_ | refine Post.block_other rfl ?_) | refine Tri.ca ?_))
  refine TL.call rfl rfl rfl (applyR_ok (f := 80) (F := (· * ·)) (fun _ _ _ _ _ _ _ _ _ _ _ h1 h2 => mul_ok (h1.mono (by omega)) (h2.mono (by omega))) ha hb hc hd) ?_
  intro u Bs h
  have hl : ∀ r, ap2 (· * ·) (readF a b) (readF c d) = some r → Ln 1000000 r := fun r hr => by
    obtain ⟨x, y, h1, h2, rfl⟩ := ap2_some hr
    have hx := readF_ln h1
    have hy := readF_ln h2
    exact ((hx.mul hy).mono (by omega))
  generalize ap2 (· * ·) (readF a b) (readF c d) = r at h hl ⊢
  cases r with
  | none =>
    obtain ⟨rfl, rfl⟩ := h
    (repeat' (first | (show TL _ _ _ _ (_ :: _) _ _ _; first | refine TL.sa ?_ | (refine TL.na ?_; intro _)) | (first | refine Stp.h ?_ | refine Post.then_normal ?_ | refine Post.next ?_ | refine Post.block_other rfl ?_) | refine Tri.ca ?_))
    refine TL.call rfl rfl rfl resultE_ok ?_
    rintro _ _ ⟨rfl, rfl⟩
    (repeat' (first | (show TL _ _ _ _ (_ :: _) _ _ _; first | refine TL.sa ?_ | (refine TL.na ?_; intro _)) | (first | refine Stp.h ?_ | refine Post.then_normal ?_ | refine Post.next ?_ | refine Post.block_other rfl ?_) | refine Tri.ca ?_))
    (refine Post.ra ?_)
    exact ⟨_, ⟨rfl, rfl⟩, by (exact Ents.au)⟩
  | some x =>
    obtain ⟨p1, c1, p2, c2, rfl, rfl⟩ := h
    (repeat' (first | (show TL _ _ _ _ (_ :: _) _ _ _; first | refine TL.sa ?_ | (refine TL.na ?_; intro _)) | (first | refine Stp.h ?_ | refine Post.then_normal ?_ | refine Post.next ?_ | refine Post.block_other rfl ?_) | refine Tri.ca ?_))
    refine TL.callv rfl rfl rfl rfl (resultS_ok ht (mv := .slice p1 (mag x.num.natAbs).length c1) (bv := .slice p2 (mag x.den).length c2) (hl x rfl)) ?_
    rintro _ _ ⟨rfl, rfl⟩
    (repeat' (first | (show TL _ _ _ _ (_ :: _) _ _ _; first | refine TL.sa ?_ | (refine TL.na ?_; intro _)) | (first | refine Stp.h ?_ | refine Post.then_normal ?_ | refine Post.next ?_ | refine Post.block_other rfl ?_) | refine Tri.ca ?_))
    (refine Post.ra ?_)
    exact ⟨_, ⟨rfl, rfl⟩, by (exact Ents.au)⟩
theorem minF_ok (ht : Tab w0) {a b c d : List UInt8} (ha : a.length ≤ 1000000000) (hb : b.length ≤ 1000000000) (hc : c.length ≤ 1000000000) (hd : d.length ≤ 1000000000) :
    CallsS Tryz.prog w0 39 [.agg #[.string ⟨a.toArray⟩, .string ⟨b.toArray⟩], .agg #[.string ⟨c.toArray⟩, .string ⟨d.toArray⟩]] As fun u Bs => u = .tuple #[.agg #[.string ⟨(outO (ap2 minQ (readF a b) (readF c d))).1.toArray⟩, .string ⟨(outO (ap2 minQ (readF a b) (readF c d))).2.1.toArray⟩], .int .i64 (outO (ap2 minQ (readF a b) (readF c d))).2.2] ∧ Bs = As := by
  refine CallsS.of_tri Tryz.func39 rfl Tryz.ntmps39 rfl ?_
  (repeat' (first | (show TL _ _ _ _ (_ :: _) _ _ _; first | refine TL.sa ?_ | (refine TL.na ?_; intro _)) | (first | refine Stp.h ?_ | refine Post.then_normal ?_ | refine Post.next ?_ | refine Post.block_other rfl ?_) | refine Tri.ca ?_))
  refine TL.call rfl rfl rfl (applyR_ok (f := 99) (F := minQ) (fun _ _ _ _ _ _ _ _ _ _ _ h1 h2 => lesser_ok (h1.mono (by omega)) (h2.mono (by omega))) ha hb hc hd) ?_
  intro u Bs h
  have hl : ∀ r, ap2 minQ (readF a b) (readF c d) = some r → Ln 1000000 r := fun r hr => by
    obtain ⟨x, y, h1, h2, rfl⟩ := ap2_some hr
    have hx := readF_ln h1
    have hy := readF_ln h2
    exact (by unfold minQ; split; exact hy.mono (by omega); exact hx.mono (by omega))
  generalize ap2 minQ (readF a b) (readF c d) = r at h hl ⊢
  cases r with
  | none =>
    obtain ⟨rfl, rfl⟩ := h
    (repeat' (first | (show TL _ _ _ _ (_ :: _) _ _ _; first | refine TL.sa ?_ | (refine TL.na ?_; intro _)) | (first | refine Stp.h ?_ | refine Post.then_normal ?_ | refine Post.next ?_ | refine Post.block_other rfl ?_) | refine Tri.ca ?_))
    refine TL.call rfl rfl rfl resultE_ok ?_
    rintro _ _ ⟨rfl, rfl⟩
    (repeat' (first | (show TL _ _ _ _ (_ :: _) _ _ _; first | refine TL.sa ?_ | (refine TL.na ?_; intro _)) | (first | refine Stp.h ?_ | refine Post.then_normal ?_ | refine Post.next ?_ | refine Post.block_other rfl ?_) | refine Tri.ca ?_))
    (refine Post.ra ?_)
    exact ⟨_, ⟨rfl, rfl⟩, by (exact Ents.au)⟩
  | some x =>
    obtain ⟨p1, c1, p2, c2, rfl, rfl⟩ := h
    (repeat' (first | (show TL _ _ _ _ (_ :: _) _ _ _; first | refine TL.sa ?_ | (refine TL.na ?_; intro _)) | (first | refine Stp.h ?_ | refine Post.then_normal ?_ | refine Post.next ?_ | refine Post.block_other rfl ?_) | refine Tri.ca ?_))
    refine TL.callv rfl rfl rfl rfl (resultS_ok ht (mv := .slice p1 (mag x.num.natAbs).length c1) (bv := .slice p2 (mag x.den).length c2) (hl x rfl)) ?_
    rintro _ _ ⟨rfl, rfl⟩
    (repeat' (first | (show TL _ _ _ _ (_ :: _) _ _ _; first | refine TL.sa ?_ | (refine TL.na ?_; intro _)) | (first | refine Stp.h ?_ | refine Post.then_normal ?_ | refine Post.next ?_ | refine Post.block_other rfl ?_) | refine Tri.ca ?_))
    (refine Post.ra ?_)
    exact ⟨_, ⟨rfl, rfl⟩, by (exact Ents.au)⟩
theorem maxF_ok (ht : Tab w0) {a b c d : List UInt8} (ha : a.length ≤ 1000000000) (hb : b.length ≤ 1000000000) (hc : c.length ≤ 1000000000) (hd : d.length ≤ 1000000000) :
    CallsS Tryz.prog w0 40 [.agg #[.string ⟨a.toArray⟩, .string ⟨b.toArray⟩], .agg #[.string ⟨c.toArray⟩, .string ⟨d.toArray⟩]] As fun u Bs => u = .tuple #[.agg #[.string ⟨(outO (ap2 maxQ (readF a b) (readF c d))).1.toArray⟩, .string ⟨(outO (ap2 maxQ (readF a b) (readF c d))).2.1.toArray⟩], .int .i64 (outO (ap2 maxQ (readF a b) (readF c d))).2.2] ∧ Bs = As := by
  refine CallsS.of_tri Tryz.func40 rfl Tryz.ntmps40 rfl ?_
  (repeat' (first | (show TL _ _ _ _ (_ :: _) _ _ _; first | refine TL.sa ?_ | (refine TL.na ?_; intro _)) | (first | refine Stp.h ?_ | refine Post.then_normal ?_ | refine Post.next ?_ | refine Post.block_other rfl ?_) | refine Tri.ca ?_))
  refine TL.call rfl rfl rfl (applyR_ok (f := 100) (F := maxQ) (fun _ _ _ _ _ _ _ _ _ _ _ h1 h2 => greater_ok (h1.mono (by omega)) (h2.mono (by omega))) ha hb hc hd) ?_
  intro u Bs h
  have hl : ∀ r, ap2 maxQ (readF a b) (readF c d) = some r → Ln 1000000 r := fun r hr => by
    obtain ⟨x, y, h1, h2, rfl⟩ := ap2_some hr
    have hx := readF_ln h1
    have hy := readF_ln h2
    exact (by unfold maxQ; split; exact hy.mono (by omega); exact hx.mono (by omega))
  generalize ap2 maxQ (readF a b) (readF c d) = r at h hl ⊢
  cases r with
  | none =>
    obtain ⟨rfl, rfl⟩ := h
    (repeat' (first | (show TL _ _ _ _ (_ :: _) _ _ _; first | refine TL.sa ?_ | (refine TL.na ?_; intro _)) | (first | refine Stp.h ?_ | refine Post.then_normal ?_ | refine Post.next ?_ | refine Post.block_other rfl ?_) | refine Tri.ca ?_))
    refine TL.call rfl rfl rfl resultE_ok ?_
    rintro _ _ ⟨rfl, rfl⟩
    (repeat' (first | (show TL _ _ _ _ (_ :: _) _ _ _; first | refine TL.sa ?_ | (refine TL.na ?_; intro _)) | (first | refine Stp.h ?_ | refine Post.then_normal ?_ | refine Post.next ?_ | refine Post.block_other rfl ?_) | refine Tri.ca ?_))
    (refine Post.ra ?_)
    exact ⟨_, ⟨rfl, rfl⟩, by (exact Ents.au)⟩
  | some x =>
    obtain ⟨p1, c1, p2, c2, rfl, rfl⟩ := h
    (repeat' (first | (show TL _ _ _ _ (_ :: _) _ _ _; first | refine TL.sa ?_ | (refine TL.na ?_; intro _)) | (first | refine Stp.h ?_ | refine Post.then_normal ?_ | refine Post.next ?_ | refine Post.block_other rfl ?_) | refine Tri.ca ?_))
    refine TL.callv rfl rfl rfl rfl (resultS_ok ht (mv := .slice p1 (mag x.num.natAbs).length c1) (bv := .slice p2 (mag x.den).length c2) (hl x rfl)) ?_
    rintro _ _ ⟨rfl, rfl⟩
    (repeat' (first | (show TL _ _ _ _ (_ :: _) _ _ _; first | refine TL.sa ?_ | (refine TL.na ?_; intro _)) | (first | refine Stp.h ?_ | refine Post.then_normal ?_ | refine Post.next ?_ | refine Post.block_other rfl ?_) | refine Tri.ca ?_))
    (refine Post.ra ?_)
    exact ⟨_, ⟨rfl, rfl⟩, by (exact Ents.au)⟩
theorem cmpF_ok {a b c d : List UInt8} (ha : a.length ≤ 1000000000) (hb : b.length ≤ 1000000000) (hc : c.length ≤ 1000000000) (hd : d.length ≤ 1000000000) :
    CallsS Tryz.prog w0 35 [.agg #[.string ⟨a.toArray⟩, .string ⟨b.toArray⟩], .agg #[.string ⟨c.toArray⟩, .string ⟨d.toArray⟩]] As fun u Bs => u = .tuple #[.int .i64 ((ap2 ordQ (readF a b) (readF c d)).getD 0), .int .i64 (if (ap2 ordQ (readF a b) (readF c d)).isSome then 0 else 20)] ∧ Bs = As := by
  refine CallsS.of_tri Tryz.func35 rfl Tryz.ntmps35 rfl ?_
  (repeat' (first | (show TL _ _ _ _ (_ :: _) _ _ _; first | refine TL.sa ?_ | (refine TL.na ?_; intro _)) | (first | refine Stp.h ?_ | refine Post.then_normal ?_ | refine Post.next ?_ | refine Post.block_other rfl ?_) | refine Tri.ca ?_))
  refine TL.call rfl rfl rfl (applyI_ok ha hb hc hd) ?_
  rintro _ _ ⟨rfl, rfl⟩
  (repeat' (first | (show TL _ _ _ _ (_ :: _) _ _ _; first | refine TL.sa ?_ | (refine TL.na ?_; intro _)) | (first | refine Stp.h ?_ | refine Post.then_normal ?_ | refine Post.next ?_ | refine Post.block_other rfl ?_) | refine Tri.ca ?_))
  (refine Post.ra ?_)
  exact ⟨_, ⟨rfl, rfl⟩, by (exact Ents.au)⟩
theorem checkF_ok {a b : List UInt8} (ha : a.length ≤ 1000000000) (hb : b.length ≤ 1000000000) :
    CallsS Tryz.prog w0 24 [.agg #[.string ⟨a.toArray⟩, .string ⟨b.toArray⟩]] As fun u Bs => u = .int .i64 (if (readF a b).isSome then 0 else 20) ∧ Bs = As := by
  refine CallsS.of_tri Tryz.func24 rfl Tryz.ntmps24 rfl ?_
  (repeat' (first | (show TL _ _ _ _ (_ :: _) _ _ _; first | refine TL.sa ?_ | (refine TL.na ?_; intro _)) | (first | refine Stp.h ?_ | refine Post.then_normal ?_ | refine Post.next ?_ | refine Post.block_other rfl ?_) | refine Tri.ca ?_))
  refine TL.call rfl rfl rfl (read_ok ha hb) ?_
  intro _ _ h1
  cases hx : readF a b with
  | none =>
    rw [hx] at h1
    obtain ⟨rfl, rfl⟩ := h1
    (repeat' (first | (show TL _ _ _ _ (_ :: _) _ _ _; first | refine TL.sa ?_ | (refine TL.na ?_; intro _)) | (first | refine Stp.h ?_ | refine Post.then_normal ?_ | refine Post.next ?_ | refine Post.block_other rfl ?_) | refine Tri.ca ?_))
    (refine Post.ra ?_)
    exact ⟨_, ⟨rfl, rfl⟩, by (exact Ents.au)⟩
  | some x =>
    rw [hx] at h1
    obtain ⟨p1, c1, p2, c2, rfl, rfl⟩ := h1
    (repeat' (first | (show TL _ _ _ _ (_ :: _) _ _ _; first | refine TL.sa ?_ | (refine TL.na ?_; intro _)) | (first | refine Stp.h ?_ | refine Post.then_normal ?_ | refine Post.next ?_ | refine Post.block_other rfl ?_) | refine Tri.ca ?_))
    (refine Post.ra ?_)
    exact ⟨_, ⟨rfl, rfl⟩, by (exact Ents.au)⟩
theorem signF_ok {a b : List UInt8} (ha : a.length ≤ 1000000000) (hb : b.length ≤ 1000000000) :
    CallsS Tryz.prog w0 38 [.agg #[.string ⟨a.toArray⟩, .string ⟨b.toArray⟩]] As fun u Bs => u = .tuple #[.int .i64 (match readF a b with | some x => signI x.num | none => 0), .int .i64 (if (readF a b).isSome then 0 else 20)] ∧ Bs = As := by
  refine CallsS.of_tri Tryz.func38 rfl Tryz.ntmps38 rfl ?_
  (repeat' (first | (show TL _ _ _ _ (_ :: _) _ _ _; first | refine TL.sa ?_ | (refine TL.na ?_; intro _)) | (first | refine Stp.h ?_ | refine Post.then_normal ?_ | refine Post.next ?_ | refine Post.block_other rfl ?_) | refine Tri.ca ?_))
  refine TL.call rfl rfl rfl (read_ok ha hb) ?_
  intro _ _ h1
  cases hx : readF a b with
  | none =>
    rw [hx] at h1
    obtain ⟨rfl, rfl⟩ := h1
    (repeat' (first | (show TL _ _ _ _ (_ :: _) _ _ _; first | refine TL.sa ?_ | (refine TL.na ?_; intro _)) | (first | refine Stp.h ?_ | refine Post.then_normal ?_ | refine Post.next ?_ | refine Post.block_other rfl ?_) | refine Tri.ca ?_))
    (refine Post.ra ?_)
    exact ⟨_, ⟨rfl, rfl⟩, by (exact Ents.au)⟩
  | some x =>
    rw [hx] at h1
    obtain ⟨p1, c1, p2, c2, rfl, rfl⟩ := h1
    (repeat' (first | (show TL _ _ _ _ (_ :: _) _ _ _; first | refine TL.sa ?_ | (refine TL.na ?_; intro _)) | (first | refine Stp.h ?_ | refine Post.then_normal ?_ | refine Post.next ?_ | refine Post.block_other rfl ?_) | refine Tri.ca ?_))
    refine TL.callv rfl rfl rfl rfl (sign_ok (v := .slice p1 (mag x.num.natAbs).length c1) (x := x.num)) ?_
    rintro _ _ ⟨rfl, rfl⟩
    (repeat' (first | (show TL _ _ _ _ (_ :: _) _ _ _; first | refine TL.sa ?_ | (refine TL.na ?_; intro _)) | (first | refine Stp.h ?_ | refine Post.then_normal ?_ | refine Post.next ?_ | refine Post.block_other rfl ?_) | refine Tri.ca ?_))
    (refine Post.ra ?_)
    exact ⟨_, ⟨rfl, rfl⟩, by (exact Ents.au)⟩
theorem negF_ok (ht : Tab w0) {a b : List UInt8} (ha : a.length ≤ 1000000000) (hb : b.length ≤ 1000000000) :
    CallsS Tryz.prog w0 37 [.agg #[.string ⟨a.toArray⟩, .string ⟨b.toArray⟩]] As fun u Bs => u = .tuple #[.agg #[.string ⟨(outO ((readF a b).map fun x => -x)).1.toArray⟩, .string ⟨(outO ((readF a b).map fun x => -x)).2.1.toArray⟩], .int .i64 (outO ((readF a b).map fun x => -x)).2.2] ∧ Bs = As := by
  refine CallsS.of_tri Tryz.func37 rfl Tryz.ntmps37 rfl ?_
  (repeat' (first | (show TL _ _ _ _ (_ :: _) _ _ _; first | refine TL.sa ?_ | (refine TL.na ?_; intro _)) | (first | refine Stp.h ?_ | refine Post.then_normal ?_ | refine Post.next ?_ | refine Post.block_other rfl ?_) | refine Tri.ca ?_))
  refine TL.call rfl rfl rfl (read_ok ha hb) ?_
  intro _ _ h1
  cases hx : readF a b with
  | none =>
    rw [hx] at h1
    obtain ⟨rfl, rfl⟩ := h1
    (repeat' (first | (show TL _ _ _ _ (_ :: _) _ _ _; first | refine TL.sa ?_ | (refine TL.na ?_; intro _)) | (first | refine Stp.h ?_ | refine Post.then_normal ?_ | refine Post.next ?_ | refine Post.block_other rfl ?_) | refine Tri.ca ?_))
    (refine Post.ra ?_)
    exact ⟨_, ⟨rfl, rfl⟩, by (exact Ents.au)⟩
  | some x =>
    rw [hx] at h1
    obtain ⟨p1, c1, p2, c2, rfl, rfl⟩ := h1
    have hl := readF_ln hx
    have en : mag x.num.natAbs = mag (-x).num.natAbs := by rw [Rat.neg_num, Int.natAbs_neg]
    have ed : mag x.den = mag (-x).den := rfl
    (repeat' (first | (show TL _ _ _ _ (_ :: _) _ _ _; first | refine TL.sa ?_ | (refine TL.na ?_; intro _)) | (first | refine Stp.h ?_ | refine Post.then_normal ?_ | refine Post.next ?_ | refine Post.block_other rfl ?_) | refine Tri.ca ?_))
    refine TL.callv rfl rfl rfl rfl (negated_ok (mv := .slice p1 (mag x.num.natAbs).length c1) (bv := .slice p2 (mag x.den).length c2) (x := x)) ?_
    rintro _ _ ⟨rfl, rfl⟩
    (repeat' (first | (show TL _ _ _ _ (_ :: _) _ _ _; first | refine TL.sa ?_ | (refine TL.na ?_; intro _)) | (first | refine Stp.h ?_ | refine Post.then_normal ?_ | refine Post.next ?_ | refine Post.block_other rfl ?_) | refine Tri.ca ?_))
    rw [en, ed]
    refine TL.callv rfl rfl rfl rfl (write_ok ht (mv := .slice p1 (mag (-x).num.natAbs).length c1) (bv := .slice p2 (mag (-x).den).length c2) (x := -x) (hl.neg.mono (by omega))) ?_
    rintro _ _ ⟨rfl, rfl⟩
    (repeat' (first | (show TL _ _ _ _ (_ :: _) _ _ _; first | refine TL.sa ?_ | (refine TL.na ?_; intro _)) | (first | refine Stp.h ?_ | refine Post.then_normal ?_ | refine Post.next ?_ | refine Post.block_other rfl ?_) | refine Tri.ca ?_))
    (refine Post.ra ?_)
    exact ⟨_, ⟨rfl, rfl⟩, by (exact Ents.au)⟩
def absQ (x : Rat) : Rat := if x.num < 0 then -x else x
theorem absQ_num (x : Rat) : (absQ x).num = (x.num.natAbs : Int) ∧ (absQ x).den = x.den := by
  unfold absQ
  split
  · exact ⟨by rw [Rat.neg_num]; omega, rfl⟩
  · exact ⟨by omega, rfl⟩
theorem absF_ok (ht : Tab w0) {a b : List UInt8} (ha : a.length ≤ 1000000000) (hb : b.length ≤ 1000000000) :
    CallsS Tryz.prog w0 41 [.agg #[.string ⟨a.toArray⟩, .string ⟨b.toArray⟩]] As fun u Bs => u = .tuple #[.agg #[.string ⟨(outO ((readF a b).map absQ)).1.toArray⟩, .string ⟨(outO ((readF a b).map absQ)).2.1.toArray⟩], .int .i64 (outO ((readF a b).map absQ)).2.2] ∧ Bs = As := by
  refine CallsS.of_tri Tryz.func41 rfl Tryz.ntmps41 rfl ?_
  (repeat' (first | (show TL _ _ _ _ (_ :: _) _ _ _; first | refine TL.sa ?_ | (refine TL.na ?_; intro _)) | (first | refine Stp.h ?_ | refine Post.then_normal ?_ | refine Post.next ?_ | refine Post.block_other rfl ?_) | refine Tri.ca ?_))
  rename_i b1 b2
  refine TL.call rfl rfl rfl (read_ok ha hb) ?_
  intro _ _ h1
  cases hx : readF a b with
  | none =>
    rw [hx] at h1
    obtain ⟨rfl, rfl⟩ := h1
    (repeat' (first | (show TL _ _ _ _ (_ :: _) _ _ _; first | refine TL.sa ?_ | (refine TL.na ?_; intro _)) | (first | refine Stp.h ?_ | refine Post.then_normal ?_ | refine Post.next ?_ | refine Post.block_other rfl ?_) | refine Tri.ca ?_))
    (refine Post.ra ?_)
    exact ⟨_, ⟨rfl, rfl⟩, by (exact Ents.au)⟩
  | some x =>
    rw [hx] at h1
    obtain ⟨p1, c1, p2, c2, rfl, rfl⟩ := h1
    obtain ⟨l1, l2⟩ := readF_ln hx
    obtain ⟨e1, e2⟩ := absQ_num x
    have en : mag x.num.natAbs = mag (absQ x).num.natAbs := by rw [e1, Int.natAbs_natCast]
    have ed : mag x.den = mag (absQ x).den := by rw [e2]
    have eb : (false && decide (x.num.natAbs ≠ 0)) = decide ((absQ x).num < 0) := by rw [Bool.false_and, eq_comm, decide_eq_false_iff_not, e1]; omega
    (repeat' (first | (show TL _ _ _ _ (_ :: _) _ _ _; first | refine TL.sa ?_ | (refine TL.na ?_; intro _)) | (first | refine Stp.h ?_ | refine Post.then_normal ?_ | refine Post.next ?_ | refine Post.block_other rfl ?_) | refine Tri.ca ?_))
    rename_i b4
    refine Tri.dw [.cl b4 [.slice p1 (mag x.num.natAbs).length c1, .bool (decide (x.num < 0)), .slice p2 (mag x.den).length c2] 102] [] (.take 0 (.take 1 (.take 2 (.take 4 (.take 5 (.all [(3, .take 6 (.all [(7, .take 8 (.take 9 (.all [(10, .take 11 (.done))])))]))])))))) ?_
    (repeat' (first | (show TL _ _ _ _ (_ :: _) _ _ _; first | refine TL.sa ?_ | (refine TL.na ?_; intro _)) | (first | refine Stp.h ?_ | refine Post.then_normal ?_ | refine Post.next ?_ | refine Post.block_other rfl ?_) | (show TT _ _ _ _ _ _ _ _ _; refine TT.sa ?_) | exact TTs.nil | refine TTs.cons ?_ ?_ | (show T1 _ _ _ _ _ _ _ _ _ _; first | refine T1.sa ?_ | (refine T1.na ?_; intro _)) | (show TC _ _ _ _ _ _ _ _ _ _; first | refine TC.goa ?_ | refine TC.fina ?_) | refine Tri.ca ?_))
    refine T1.callv rfl rfl rfl rfl rfl (signed_ok (v := .slice p1 (mag x.num.natAbs).length c1) (n := x.num.natAbs)) ?_
    rintro _ _ ⟨rfl, rfl⟩
    rw [eb]
    (repeat' (first | (show TL _ _ _ _ (_ :: _) _ _ _; first | refine TL.sa ?_ | (refine TL.na ?_; intro _)) | (first | refine Stp.h ?_ | refine Post.then_normal ?_ | refine Post.next ?_ | refine Post.block_other rfl ?_) | (show TT _ _ _ _ _ _ _ _ _; refine TT.sa ?_) | exact TTs.nil | refine TTs.cons ?_ ?_ | (show T1 _ _ _ _ _ _ _ _ _ _; first | refine T1.sa ?_ | (refine T1.na ?_; intro _)) | (show TC _ _ _ _ _ _ _ _ _ _; first | refine TC.goa ?_ | refine TC.fina ?_) | refine Tri.ca ?_))
    rw [en, ed]
    refine T1.callv rfl rfl rfl rfl rfl (write_ok ht (mv := .slice p1 (mag (absQ x).num.natAbs).length c1) (bv := .slice p2 (mag (absQ x).den).length c2) (x := absQ x) ⟨by rw [← en]; omega, by rw [← ed]; omega⟩) ?_
    rintro _ _ ⟨rfl, rfl⟩
    (repeat' (first | (show TL _ _ _ _ (_ :: _) _ _ _; first | refine TL.sa ?_ | (refine TL.na ?_; intro _)) | (first | refine Stp.h ?_ | refine Post.then_normal ?_ | refine Post.next ?_ | refine Post.block_other rfl ?_) | (show TT _ _ _ _ _ _ _ _ _; refine TT.sa ?_) | exact TTs.nil | refine TTs.cons ?_ ?_ | (show T1 _ _ _ _ _ _ _ _ _ _; first | refine T1.sa ?_ | (refine T1.na ?_; intro _)) | (show TC _ _ _ _ _ _ _ _ _ _; first | refine TC.goa ?_ | refine TC.fina ?_) | refine Tri.ca ?_))
    (refine Post.ra ?_)
    exact ⟨_, ⟨rfl, rfl⟩, by (exact Ents.au)⟩
theorem divF_ok (ht : Tab w0) {a b c d : List UInt8} (ha : a.length ≤ 1000000000) (hb : b.length ≤ 1000000000) (hc : c.length ≤ 1000000000) (hd : d.length ≤ 1000000000) :
    CallsS Tryz.prog w0 26 [.agg #[.string ⟨a.toArray⟩, .string ⟨b.toArray⟩], .agg #[.string ⟨c.toArray⟩, .string ⟨d.toArray⟩]] As fun u Bs => u = .tuple #[.agg #[.string ⟨(divO (readF a b) (readF c d)).1.toArray⟩, .string ⟨(divO (readF a b) (readF c d)).2.1.toArray⟩], .int .i64 (divO (readF a b) (readF c d)).2.2] ∧ Bs = As := by
  refine CallsS.of_tri Tryz.func26 rfl Tryz.ntmps26 rfl ?_
  (repeat' (first | (show TL _ _ _ _ (_ :: _) _ _ _; first | refine TL.sa ?_ | (refine TL.na ?_; intro _)) | (first | refine Stp.h ?_ | refine Post.then_normal ?_ | refine Post.next ?_ | refine Post.block_other rfl ?_) | (show TT _ _ _ _ _ _ _ _ _; refine TT.sa ?_) | exact TTs.nil | refine TTs.cons ?_ ?_ | (show T1 _ _ _ _ _ _ _ _ _ _; first | refine T1.sa ?_ | (refine T1.na ?_; intro _)) | (show TC _ _ _ _ _ _ _ _ _ _; first | refine TC.goa ?_ | refine TC.fina ?_) | refine Tri.ca ?_))
  rename_i b2 b3 b4
  refine TL.call rfl rfl rfl (read_ok ha hb) ?_
  intro _ _ h1
  cases hx : readF a b with
  | none =>
    rw [hx] at h1
    obtain ⟨rfl, rfl⟩ := h1
    (repeat' (first | (show TL _ _ _ _ (_ :: _) _ _ _; first | refine TL.sa ?_ | (refine TL.na ?_; intro _)) | (first | refine Stp.h ?_ | refine Post.then_normal ?_ | refine Post.next ?_ | refine Post.block_other rfl ?_) | (show TT _ _ _ _ _ _ _ _ _; refine TT.sa ?_) | exact TTs.nil | refine TTs.cons ?_ ?_ | (show T1 _ _ _ _ _ _ _ _ _ _; first | refine T1.sa ?_ | (refine T1.na ?_; intro _)) | (show TC _ _ _ _ _ _ _ _ _ _; first | refine TC.goa ?_ | refine TC.fina ?_) | refine Tri.ca ?_))
    refine TL.call rfl rfl rfl (read_ok hc hd) ?_
    intro _ _ h2
    cases hy : readF c d with
    | none =>
      rw [hy] at h2
      obtain ⟨rfl, rfl⟩ := h2
      (repeat' (first | (show TL _ _ _ _ (_ :: _) _ _ _; first | refine TL.sa ?_ | (refine TL.na ?_; intro _)) | (first | refine Stp.h ?_ | refine Post.then_normal ?_ | refine Post.next ?_ | refine Post.block_other rfl ?_) | refine Tri.ca ?_))
      (refine Post.ra ?_)
      exact ⟨_, ⟨rfl, rfl⟩, by (exact Ents.au)⟩
    | some y =>
      rw [hy] at h2
      obtain ⟨q1, k1, q2, k2, rfl, rfl⟩ := h2
      (repeat' (first | (show TL _ _ _ _ (_ :: _) _ _ _; first | refine TL.sa ?_ | (refine TL.na ?_; intro _)) | (first | refine Stp.h ?_ | refine Post.then_normal ?_ | refine Post.next ?_ | refine Post.block_other rfl ?_) | refine Tri.ca ?_))
      (refine Post.ra ?_)
      exact ⟨_, ⟨rfl, rfl⟩, by (exact Ents.au)⟩
  | some x =>
    rw [hx] at h1
    obtain ⟨p1, c1, p2, c2, rfl, rfl⟩ := h1
    (repeat' (first | (show TL _ _ _ _ (_ :: _) _ _ _; first | refine TL.sa ?_ | (refine TL.na ?_; intro _)) | (first | refine Stp.h ?_ | refine Post.then_normal ?_ | refine Post.next ?_ | refine Post.block_other rfl ?_) | refine Tri.ca ?_))
    rename_i b6
    refine TL.call rfl rfl rfl (read_ok hc hd) ?_
    intro _ _ h2
    cases hy : readF c d with
    | none =>
      rw [hy] at h2
      obtain ⟨rfl, rfl⟩ := h2
      (repeat' (first | (show TL _ _ _ _ (_ :: _) _ _ _; first | refine TL.sa ?_ | (refine TL.na ?_; intro _)) | (first | refine Stp.h ?_ | refine Post.then_normal ?_ | refine Post.next ?_ | refine Post.block_other rfl ?_) | refine Tri.ca ?_))
      (refine Post.ra ?_)
      exact ⟨_, ⟨rfl, rfl⟩, by (exact Ents.au)⟩
    | some y =>
      rw [hy] at h2
      obtain ⟨q1, k1, q2, k2, rfl, rfl⟩ := h2
      have lx := readF_ln hx
      have ly := readF_ln hy
      (repeat' (first | (show TL _ _ _ _ (_ :: _) _ _ _; first | refine TL.sa ?_ | (refine TL.na ?_; intro _)) | (first | refine Stp.h ?_ | refine Post.then_normal ?_ | refine Post.next ?_ | refine Post.block_other rfl ?_) | refine Tri.ca ?_))
      rename_i b8
      refine TL.callv rfl rfl rfl rfl (zero_ok (v := .slice q1 (mag y.num.natAbs).length k1) (n := y.num.natAbs)) ?_
      rintro _ _ ⟨rfl, rfl⟩
      by_cases h0 : y.num.natAbs = 0
      · have hy0 : y = 0 := Rat.num_eq_zero.1 (by omega)
        rw [divO, if_pos hy0]
        (repeat' (first | (show TL _ _ _ _ (_ :: _) _ _ _; first | refine TL.sa ?_ | (refine TL.na ?_; intro _)) | (first | refine Stp.h ?_ | refine Post.then_normal ?_ | refine Post.next ?_ | refine Post.block_other rfl ?_) | refine Tri.ca ?_))
        (refine Post.ra ?_)
        exact ⟨_, ⟨rfl, rfl⟩, by (exact Ents.au)⟩
      · have hy0 : y ≠ 0 := fun h => h0 (by rw [h]; rfl)
        rw [divO, if_neg hy0]
        (repeat' (first | (show TL _ _ _ _ (_ :: _) _ _ _; first | refine TL.sa ?_ | (refine TL.na ?_; intro _)) | (first | refine Stp.h ?_ | refine Post.then_normal ?_ | refine Post.next ?_ | refine Post.block_other rfl ?_) | refine Tri.ca ?_))
        refine Tri.dw [.cl b6 [.slice p1 (mag x.num.natAbs).length c1, .bool (decide (x.num < 0)), .slice p2 (mag x.den).length c2] 102, .cl b8 [.slice q1 (mag y.num.natAbs).length k1, .bool (decide (y.num < 0)), .slice q2 (mag y.den).length k2] 102] [] (.take 0 (.take 1 (.all [(2, .all [(3, .all [(4, .take 5 (.take 6 (.all [(7, .take 8 (.done))])))])])]))) ?_
        (repeat' (first | (show TL _ _ _ _ (_ :: _) _ _ _; first | refine TL.sa ?_ | (refine TL.na ?_; intro _)) | (first | refine Stp.h ?_ | refine Post.then_normal ?_ | refine Post.next ?_ | refine Post.block_other rfl ?_) | (show TT _ _ _ _ _ _ _ _ _; refine TT.sa ?_) | exact TTs.nil | refine TTs.cons ?_ ?_ | (show T1 _ _ _ _ _ _ _ _ _ _; first | refine T1.sa ?_ | (refine T1.na ?_; intro _)) | (show TC _ _ _ _ _ _ _ _ _ _; first | refine TC.goa ?_ | refine TC.fina ?_) | refine Tri.ca ?_))
        refine T1.callv rfl rfl rfl rfl rfl (inverse_ok (mv := .slice q1 (mag y.num.natAbs).length k1) (bv := .slice q2 (mag y.den).length k2) hy0) ?_
        rintro _ _ ⟨q3, k3, q4, k4, rfl, rfl⟩
        (repeat' (first | (show TL _ _ _ _ (_ :: _) _ _ _; first | refine TL.sa ?_ | (refine TL.na ?_; intro _)) | (first | refine Stp.h ?_ | refine Post.then_normal ?_ | refine Post.next ?_ | refine Post.block_other rfl ?_) | (show TT _ _ _ _ _ _ _ _ _; refine TT.sa ?_) | exact TTs.nil | refine TTs.cons ?_ ?_ | (show T1 _ _ _ _ _ _ _ _ _ _; first | refine T1.sa ?_ | (refine T1.na ?_; intro _)) | (show TC _ _ _ _ _ _ _ _ _ _; first | refine TC.goa ?_ | refine TC.fina ?_) | refine Tri.ca ?_))
        refine T1.callv rfl rfl rfl rfl rfl (mul_ok (mv := .slice p1 (mag x.num.natAbs).length c1) (bv := .slice p2 (mag x.den).length c2) (nv := .slice q3 (mag (y⁻¹).num.natAbs).length k3) (cv := .slice q4 (mag (y⁻¹).den).length k4) (x := x) (y := y⁻¹) (lx.mono (by omega)) (ly.inv.mono (by omega))) ?_
        rintro _ _ ⟨q5, k5, q6, k6, rfl, rfl⟩
        (repeat' (first | (show TL _ _ _ _ (_ :: _) _ _ _; first | refine TL.sa ?_ | (refine TL.na ?_; intro _)) | (first | refine Stp.h ?_ | refine Post.then_normal ?_ | refine Post.next ?_ | refine Post.block_other rfl ?_) | (show TT _ _ _ _ _ _ _ _ _; refine TT.sa ?_) | exact TTs.nil | refine TTs.cons ?_ ?_ | (show T1 _ _ _ _ _ _ _ _ _ _; first | refine T1.sa ?_ | (refine T1.na ?_; intro _)) | (show TC _ _ _ _ _ _ _ _ _ _; first | refine TC.goa ?_ | refine TC.fina ?_) | refine Tri.ca ?_))
        refine T1.callv rfl rfl rfl rfl rfl (write_ok ht (mv := .slice q5 (mag (x * y⁻¹).num.natAbs).length k5) (bv := .slice q6 (mag (x * y⁻¹).den).length k6) (x := x * y⁻¹) ((lx.mul ly.inv).mono (by omega))) ?_
        rintro _ _ ⟨rfl, rfl⟩
        (repeat' (first | (show TL _ _ _ _ (_ :: _) _ _ _; first | refine TL.sa ?_ | (refine TL.na ?_; intro _)) | (first | refine Stp.h ?_ | refine Post.then_normal ?_ | refine Post.next ?_ | refine Post.block_other rfl ?_) | (show TT _ _ _ _ _ _ _ _ _; refine TT.sa ?_) | exact TTs.nil | refine TTs.cons ?_ ?_ | (show T1 _ _ _ _ _ _ _ _ _ _; first | refine T1.sa ?_ | (refine T1.na ?_; intro _)) | (show TC _ _ _ _ _ _ _ _ _ _; first | refine TC.goa ?_ | refine TC.fina ?_) | refine Tri.ca ?_))
        (refine Post.ra ?_)
        exact ⟨_, ⟨rfl, rfl⟩, by (exact Ents.au)⟩
theorem floorF_ok (ht : Tab w0) {a b : List UInt8} (ha : a.length ≤ 1000000000) (hb : b.length ≤ 1000000000) :
    CallsS Tryz.prog w0 33 [.agg #[.string ⟨a.toArray⟩, .string ⟨b.toArray⟩]] As fun u Bs => u = .tuple #[.string ⟨(match readF a b with | some x => textI (x.num / (x.den : Int)) | none => []).toArray⟩, .int .i64 (if (readF a b).isSome then 0 else 20)] ∧ Bs = As := by
  refine CallsS.of_tri Tryz.func33 rfl Tryz.ntmps33 rfl ?_
  (repeat' (first | (show TL _ _ _ _ (_ :: _) _ _ _; first | refine TL.sa ?_ | (refine TL.na ?_; intro _)) | (first | refine Stp.h ?_ | refine Post.then_normal ?_ | refine Post.next ?_ | refine Post.block_other rfl ?_) | (show TT _ _ _ _ _ _ _ _ _; refine TT.sa ?_) | exact TTs.nil | refine TTs.cons ?_ ?_ | (show T1 _ _ _ _ _ _ _ _ _ _; first | refine T1.sa ?_ | (refine T1.na ?_; intro _)) | (show TC _ _ _ _ _ _ _ _ _ _; first | refine TC.goa ?_ | refine TC.fina ?_) | refine Tri.ca ?_))
  refine TL.call rfl rfl rfl (read_ok ha hb) ?_
  intro _ _ h1
  cases hx : readF a b with
  | none =>
    rw [hx] at h1
    obtain ⟨rfl, rfl⟩ := h1
    (repeat' (first | (show TL _ _ _ _ (_ :: _) _ _ _; first | refine TL.sa ?_ | (refine TL.na ?_; intro _)) | (first | refine Stp.h ?_ | refine Post.then_normal ?_ | refine Post.next ?_ | refine Post.block_other rfl ?_) | (show TT _ _ _ _ _ _ _ _ _; refine TT.sa ?_) | exact TTs.nil | refine TTs.cons ?_ ?_ | (show T1 _ _ _ _ _ _ _ _ _ _; first | refine T1.sa ?_ | (refine T1.na ?_; intro _)) | (show TC _ _ _ _ _ _ _ _ _ _; first | refine TC.goa ?_ | refine TC.fina ?_) | refine Tri.ca ?_))
    (refine Post.ra ?_)
    exact ⟨_, ⟨rfl, rfl⟩, by (exact Ents.au)⟩
  | some x =>
    rw [hx] at h1
    obtain ⟨p1, c1, p2, c2, rfl, rfl⟩ := h1
    obtain ⟨l1, l2⟩ := readF_ln hx
    have hd := x.den_pos
    have lq := mag_len_le (Int.natAbs_ediv_le_natAbs x.num (x.den : Int))
    (repeat' (first | (show TL _ _ _ _ (_ :: _) _ _ _; first | refine TL.sa ?_ | (refine TL.na ?_; intro _)) | (first | refine Stp.h ?_ | refine Post.then_normal ?_ | refine Post.next ?_ | refine Post.block_other rfl ?_) | refine Tri.ca ?_))
    refine TL.callv rfl rfl rfl rfl (floor_ok (v := .slice p1 (mag x.num.natAbs).length c1) (o := .slice p2 (mag x.den).length c2) (x := x.num) (d := x.den) (by omega) (by omega) (by omega)) ?_
    rintro _ _ ⟨p3, c3, rfl, rfl⟩
    (repeat' (first | (show TL _ _ _ _ (_ :: _) _ _ _; first | refine TL.sa ?_ | (refine TL.na ?_; intro _)) | (first | refine Stp.h ?_ | refine Post.then_normal ?_ | refine Post.next ?_ | refine Post.block_other rfl ?_) | refine Tri.ca ?_))
    refine TL.callv rfl rfl rfl rfl (text_ok ht (v := .slice p3 (mag (x.num / (x.den : Int)).natAbs).length c3) (z := x.num / (x.den : Int)) (by omega)) ?_
    rintro _ _ ⟨rfl, rfl⟩
    (repeat' (first | (show TL _ _ _ _ (_ :: _) _ _ _; first | refine TL.sa ?_ | (refine TL.na ?_; intro _)) | (first | refine Stp.h ?_ | refine Post.then_normal ?_ | refine Post.next ?_ | refine Post.block_other rfl ?_) | refine Tri.ca ?_))
    (refine Post.ra ?_)
    exact ⟨_, ⟨rfl, rfl⟩, by (exact Ents.au)⟩
/-- the nearest integer of a fraction's product with a scale, if it is an int; or an error -/
def nearO (o : Option Rat) (k : Int) : Int × Int := match o with
  | none => (0, 20)
  | some x => if 1 ≤ k ∧ k ≤ 1000000000000 then (if -9223372036854775808 ≤ nearQ x k.toNat ∧ nearQ x k.toNat ≤ 9223372036854775807 then (nearQ x k.toNat, 0) else (0, 6)) else (0, 2)
theorem nearQ_len {x : Rat} {k : Nat} (hx : Ln 600 x) (hk : (mag k).length ≤ 3) : (mag (nearQ x k).natAbs).length ≤ 700 := by
  obtain ⟨l1, l2⟩ := hx
  unfold nearQ
  refine Nat.le_trans (mag_len_le (Int.natAbs_ediv_le_natAbs _ _)) (Nat.le_trans (mag_len_le (Int.natAbs_add_le _ _)) (Nat.le_trans (mag_len_add _ _) ?_))
  rw [Int.natAbs_mul, Int.natAbs_natCast, Int.natAbs_natCast]
  have h1 := mag_len_mul x.num.natAbs (k * 2)
  have h2 := mag_len_mul k 2
  have hm2 : mag 2 = [2] := mag_single (by omega) (by omega)
  have l2 : (mag 2).length = 1 := by rw [hm2]; rfl
  omega
theorem textI_le {z : Int} (h : (mag z.natAbs).length ≤ 1000) : (textI z).length ≤ 10002 := by
  have h1 := nDigits_le_mag z.natAbs
  rw [textI_eq]
  split
  · rw [List.length_cons, dec_len]; omega
  · rw [dec_len]; omega
theorem small_digits {z : Int} (h : -9223372036854775808 ≤ z ∧ z ≤ 9223372036854775807) : Lib.nDigits z.natAbs ≤ 19 := nDigits_lt (k := 19) (by omega) (by omega)
theorem intW_in {z : Int} (h : -9223372036854775808 ≤ z ∧ z ≤ 9223372036854775807) : intW (textI z) = (z, 0) := by
  have := small_digits h
  unfold intW
  rw [readW_text (by omega)]
  exact if_pos h
theorem intW_out {z : Int} (h : ¬ (-9223372036854775808 ≤ z ∧ z ≤ 9223372036854775807)) : (intW (textI z)).2 ≠ 0 := by
  unfold intW
  cases hr : readW (textI z) with
  | none => simp
  | some w =>
    dsimp only
    by_cases hw : -9223372036854775808 ≤ w ∧ w ≤ 9223372036854775807
    · exfalso
      have hd := small_digits hw
      have ht := text_readW hr
      have hz : Lib.nDigits z.natAbs ≤ 600 := by
        have hl := congrArg List.length ht
        rw [textI_eq, textI_eq] at hl
        have d1 := dec_len w.natAbs
        have d2 := dec_len z.natAbs
        split at hl <;> split at hl <;> (try simp only [List.length_cons] at hl) <;> omega
      rw [readW_text hz] at hr
      exact h (by rw [Option.some.inj hr]; exact hw)
    · rw [if_neg hw]; decide
theorem nearF_ok (ht : Tab w0) (he : ErrR w0) {a b : List UInt8} {k : Int} (ha : a.length ≤ 1000000000) (hb : b.length ≤ 1000000000) :
    CallsS Tryz.prog w0 36 [.agg #[.string ⟨a.toArray⟩, .string ⟨b.toArray⟩], .int .i64 k] As fun u Bs => u = .tuple #[.int .i64 (nearO (readF a b) k).1, .int .i64 (nearO (readF a b) k).2] ∧ Bs = As := by
  refine CallsS.of_tri Tryz.func36 rfl Tryz.ntmps36 rfl ?_
  (repeat' (first | (show TL _ _ _ _ (_ :: _) _ _ _; first | refine TL.sa ?_ | (refine TL.na ?_; intro _)) | (first | refine Stp.h ?_ | refine Post.then_normal ?_ | refine Post.next ?_ | refine Post.block_other rfl ?_) | refine Tri.ca ?_))
  refine TL.call rfl rfl rfl (read_ok ha hb) ?_
  intro _ _ h1
  cases hx : readF a b with
  | none =>
    rw [hx] at h1
    obtain ⟨rfl, rfl⟩ := h1
    (repeat' (first | (show TL _ _ _ _ (_ :: _) _ _ _; first | refine TL.sa ?_ | (refine TL.na ?_; intro _)) | (first | refine Stp.h ?_ | refine Post.then_normal ?_ | refine Post.next ?_ | refine Post.block_other rfl ?_) | refine Tri.ca ?_))
    (refine Post.ra ?_)
    exact ⟨_, ⟨rfl, rfl⟩, by (exact Ents.au)⟩
  | some x =>
    rw [hx] at h1
    obtain ⟨p1, c1, p2, c2, rfl, rfl⟩ := h1
    have hl := readF_ln hx
    by_cases hk : 1 ≤ k ∧ k ≤ 1000000000000
    · rw [nearO, if_pos hk]
      obtain ⟨n, rfl⟩ : ∃ n : Nat, k = (n : Int) := ⟨k.toNat, by omega⟩
      rw [Int.toNat_natCast]
      obtain ⟨k1, k2⟩ := hk
      have lk : (mag n).length ≤ 2 := mag_len_lt (by omega)
      have lz := nearQ_len (k := n) hl (by omega)
      (repeat' (first | (show TL _ _ _ _ (_ :: _) _ _ _; first | refine TL.sa ?_ | (refine TL.na ?_; intro _)) | (first | refine Stp.h ?_ | refine Post.then_normal ?_ | refine Post.next ?_ | refine Post.block_other rfl ?_) | refine Tri.ca ?_))
      refine Tri.dr (.take 0 (.take 1 (.take 2 (.all [(3, .all [(4, .all [(5, .all [(6, .take 7 (.take 8 (.take 9 (.take 10 (.take 11 (.done))))))])])])])))) ?_
      (repeat' (first | (show TL _ _ _ _ (_ :: _) _ _ _; first | refine TL.sa ?_ | (refine TL.na ?_; intro _)) | (first | refine Stp.h ?_ | refine Post.then_normal ?_ | refine Post.next ?_ | refine Post.block_other rfl ?_) | (show TT _ _ _ _ _ _ _ _ _; refine TT.sa ?_) | exact TTs.nil | refine TTs.cons ?_ ?_ | (show T1 _ _ _ _ _ _ _ _ _ _; first | refine T1.sa ?_ | (refine T1.na ?_; intro _)) | (show TC _ _ _ _ _ _ _ _ _ _; first | refine TC.goa ?_ | refine TC.fina ?_) | refine Tri.ca ?_))
      refine T1.callv rfl rfl rfl rfl rfl (fromSmall_ok (n := n) (by omega)) ?_
      rintro _ _ ⟨p3, c3, rfl, rfl⟩
      (repeat' (first | (show TL _ _ _ _ (_ :: _) _ _ _; first | refine TL.sa ?_ | (refine TL.na ?_; intro _)) | (first | refine Stp.h ?_ | refine Post.then_normal ?_ | refine Post.next ?_ | refine Post.block_other rfl ?_) | (show TT _ _ _ _ _ _ _ _ _; refine TT.sa ?_) | exact TTs.nil | refine TTs.cons ?_ ?_ | (show T1 _ _ _ _ _ _ _ _ _ _; first | refine T1.sa ?_ | (refine T1.na ?_; intro _)) | (show TC _ _ _ _ _ _ _ _ _ _; first | refine TC.goa ?_ | refine TC.fina ?_) | refine Tri.ca ?_))
      refine T1.callv rfl rfl rfl rfl rfl (near_ok (mv := .slice p1 (mag x.num.natAbs).length c1) (bv := .slice p2 (mag x.den).length c2) (sv := .slice p3 (mag n).length c3) (x := x) (k := n) (hl.mono (by omega)) (by omega)) ?_
      rintro _ _ ⟨p4, c4, rfl, rfl⟩
      (repeat' (first | (show TL _ _ _ _ (_ :: _) _ _ _; first | refine TL.sa ?_ | (refine TL.na ?_; intro _)) | (first | refine Stp.h ?_ | refine Post.then_normal ?_ | refine Post.next ?_ | refine Post.block_other rfl ?_) | (show TT _ _ _ _ _ _ _ _ _; refine TT.sa ?_) | exact TTs.nil | refine TTs.cons ?_ ?_ | (show T1 _ _ _ _ _ _ _ _ _ _; first | refine T1.sa ?_ | (refine T1.na ?_; intro _)) | (show TC _ _ _ _ _ _ _ _ _ _; first | refine TC.goa ?_ | refine TC.fina ?_) | refine Tri.ca ?_))
      generalize nearQ x n = z at lz ⊢
      refine T1.callv rfl rfl rfl rfl rfl (text_ok ht (v := .slice p4 (mag z.natAbs).length c4) (z := z) (by omega)) ?_
      rintro _ _ ⟨rfl, rfl⟩
      (repeat' (first | (show TL _ _ _ _ (_ :: _) _ _ _; first | refine TL.sa ?_ | (refine TL.na ?_; intro _)) | (first | refine Stp.h ?_ | refine Post.then_normal ?_ | refine Post.next ?_ | refine Post.block_other rfl ?_) | (show TT _ _ _ _ _ _ _ _ _; refine TT.sa ?_) | exact TTs.nil | refine TTs.cons ?_ ?_ | (show T1 _ _ _ _ _ _ _ _ _ _; first | refine T1.sa ?_ | (refine T1.na ?_; intro _)) | (show TC _ _ _ _ _ _ _ _ _ _; first | refine TC.goa ?_ | refine TC.fina ?_) | refine Tri.ca ?_))
      have lt := textI_le (z := z) (by omega)
      refine T1.call rfl rfl rfl rfl (int_ok he (s := textI z) (by omega)) ?_
      rintro _ _ ⟨rfl, rfl⟩
      by_cases hr : -9223372036854775808 ≤ z ∧ z ≤ 9223372036854775807
      · rw [intW_in hr, if_pos hr]
        (repeat' (first | (show TL _ _ _ _ (_ :: _) _ _ _; first | refine TL.sa ?_ | (refine TL.na ?_; intro _)) | (first | refine Stp.h ?_ | refine Post.then_normal ?_ | refine Post.next ?_ | refine Post.block_other rfl ?_) | (show TT _ _ _ _ _ _ _ _ _; refine TT.sa ?_) | exact TTs.nil | refine TTs.cons ?_ ?_ | (show T1 _ _ _ _ _ _ _ _ _ _; first | refine T1.sa ?_ | (refine T1.na ?_; intro _)) | (show TC _ _ _ _ _ _ _ _ _ _; first | refine TC.goa ?_ | refine TC.fina ?_) | refine Tri.ca ?_))
        (refine Post.ra ?_)
        exact ⟨_, ⟨rfl, rfl⟩, by (exact Ents.au)⟩
      · have h6 := intW_out hr
        rw [if_neg hr]
        generalize intW (textI z) = w at h6 ⊢
        obtain ⟨w1, w2⟩ := w
        simp only at h6
        (repeat' (first | (show TL _ _ _ _ (_ :: _) _ _ _; first | refine TL.sa ?_ | (refine TL.na ?_; intro _)) | (first | refine Stp.h ?_ | refine Post.then_normal ?_ | refine Post.next ?_ | refine Post.block_other rfl ?_) | (show TT _ _ _ _ _ _ _ _ _; refine TT.sa ?_) | exact TTs.nil | refine TTs.cons ?_ ?_ | (show T1 _ _ _ _ _ _ _ _ _ _; first | refine T1.sa ?_ | (refine T1.na ?_; intro _)) | (show TC _ _ _ _ _ _ _ _ _ _; first | refine TC.goa ?_ | refine TC.fina ?_) | refine Tri.ca ?_))
        (refine Post.ra ?_)
        exact ⟨_, ⟨rfl, rfl⟩, by (exact Ents.au)⟩
    · rw [nearO, if_neg hk]
      by_cases hk1 : k < 1
      · (repeat' (first | (show TL _ _ _ _ (_ :: _) _ _ _; first | refine TL.sa ?_ | (refine TL.na ?_; intro _)) | (first | refine Stp.h ?_ | refine Post.then_normal ?_ | refine Post.next ?_ | refine Post.block_other rfl ?_) | (show TT _ _ _ _ _ _ _ _ _; refine TT.sa ?_) | exact TTs.nil | refine TTs.cons ?_ ?_ | (show T1 _ _ _ _ _ _ _ _ _ _; first | refine T1.sa ?_ | (refine T1.na ?_; intro _)) | (show TC _ _ _ _ _ _ _ _ _ _; first | refine TC.goa ?_ | refine TC.fina ?_) | refine Tri.ca ?_))
        (refine Post.ra ?_)
        exact ⟨_, ⟨rfl, rfl⟩, by (exact Ents.au)⟩
      · have hk2 : 1000000000000 < k := by omega
        (repeat' (first | (show TL _ _ _ _ (_ :: _) _ _ _; first | refine TL.sa ?_ | (refine TL.na ?_; intro _)) | (first | refine Stp.h ?_ | refine Post.then_normal ?_ | refine Post.next ?_ | refine Post.block_other rfl ?_) | refine Tri.ca ?_))
        (refine Post.ra ?_)
        exact ⟨_, ⟨rfl, rfl⟩, by (exact Ents.au)⟩
/-- what two texts make: the fraction of two integers -/
def makeO (n d : List UInt8) : List UInt8 × List UInt8 × Int := match readW n, readW d with
  | some x, some y => if y = 0 then ([], [], 7) else outF (mkRat (if y < 0 then -x else x) y.natAbs)
  | _, _ => ([], [], 10)
set_option maxHeartbeats 2000000 in
theorem makeF_ok (ht : Tab w0) {a b : List UInt8} (ha : a.length ≤ 1000000000) (hb : b.length ≤ 1000000000) :
    CallsS Tryz.prog w0 34 [.string ⟨a.toArray⟩, .string ⟨b.toArray⟩] As fun u Bs => u = .tuple #[.agg #[.string ⟨(makeO a b).1.toArray⟩, .string ⟨(makeO a b).2.1.toArray⟩], .int .i64 (makeO a b).2.2] ∧ Bs = As := by
  refine CallsS.of_tri Tryz.func34 rfl Tryz.ntmps34 rfl ?_
  (repeat' (first | (show TL _ _ _ _ (_ :: _) _ _ _; first | refine TL.sa ?_ | (refine TL.na ?_; intro _)) | (first | refine Stp.h ?_ | refine Post.then_normal ?_ | refine Post.next ?_ | refine Post.block_other rfl ?_) | refine Tri.ca ?_))
  refine TL.call rfl rfl rfl (check_okW ha) ?_
  rintro _ _ ⟨rfl, rfl⟩
  cases h1 : readW a with
  | none =>
    rw [checkW_none h1, makeO, h1]
    (repeat' (first | (show TL _ _ _ _ (_ :: _) _ _ _; first | refine TL.sa ?_ | (refine TL.na ?_; intro _)) | (first | refine Stp.h ?_ | refine Post.then_normal ?_ | refine Post.next ?_ | refine Post.block_other rfl ?_) | refine Tri.ca ?_))
    (refine Post.ra ?_)
    exact ⟨_, ⟨rfl, rfl⟩, by (exact Ents.au)⟩
  | some x =>
    rw [checkW_some h1]
    (repeat' (first | (show TL _ _ _ _ (_ :: _) _ _ _; first | refine TL.sa ?_ | (refine TL.na ?_; intro _)) | (first | refine Stp.h ?_ | refine Post.then_normal ?_ | refine Post.next ?_ | refine Post.block_other rfl ?_) | refine Tri.ca ?_))
    refine TL.call rfl rfl rfl (check_okW hb) ?_
    rintro _ _ ⟨rfl, rfl⟩
    cases h2 : readW b with
    | none =>
      rw [checkW_none h2, makeO, h1, h2]
      (repeat' (first | (show TL _ _ _ _ (_ :: _) _ _ _; first | refine TL.sa ?_ | (refine TL.na ?_; intro _)) | (first | refine Stp.h ?_ | refine Post.then_normal ?_ | refine Post.next ?_ | refine Post.block_other rfl ?_) | refine Tri.ca ?_))
      (refine Post.ra ?_)
      exact ⟨_, ⟨rfl, rfl⟩, by (exact Ents.au)⟩
    | some y =>
      rw [checkW_some h2, makeO, h1, h2]
      dsimp only
      have lx : (mag x.natAbs).length ≤ 600 := readW_len h1
      have ly : (mag y.natAbs).length ≤ 600 := readW_len h2
      (repeat' (first | (show TL _ _ _ _ (_ :: _) _ _ _; first | refine TL.sa ?_ | (refine TL.na ?_; intro _)) | (first | refine Stp.h ?_ | refine Post.then_normal ?_ | refine Post.next ?_ | refine Post.block_other rfl ?_) | refine Tri.ca ?_))
      refine TL.call rfl rfl rfl (number_ok h1) ?_
      rintro _ _ ⟨p1, c1, rfl, rfl⟩
      (repeat' (first | (show TL _ _ _ _ (_ :: _) _ _ _; first | refine TL.sa ?_ | (refine TL.na ?_; intro _)) | (first | refine Stp.h ?_ | refine Post.then_normal ?_ | refine Post.next ?_ | refine Post.block_other rfl ?_) | refine Tri.ca ?_))
      refine TL.call rfl rfl rfl (number_ok h2) ?_
      rintro _ _ ⟨p2, c2, rfl, rfl⟩
      (repeat' (first | (show TL _ _ _ _ (_ :: _) _ _ _; first | refine TL.sa ?_ | (refine TL.na ?_; intro _)) | (first | refine Stp.h ?_ | refine Post.then_normal ?_ | refine Post.next ?_ | refine Post.block_other rfl ?_) | refine Tri.ca ?_))
      rename_i b6 b7
      refine TL.callv rfl rfl rfl rfl (zero_ok (v := .slice p2 (mag y.natAbs).length c2) (n := y.natAbs)) ?_
      rintro _ _ ⟨rfl, rfl⟩
      by_cases h0 : y.natAbs = 0
      · rw [if_pos (by omega)]
        (repeat' (first | (show TL _ _ _ _ (_ :: _) _ _ _; first | refine TL.sa ?_ | (refine TL.na ?_; intro _)) | (first | refine Stp.h ?_ | refine Post.then_normal ?_ | refine Post.next ?_ | refine Post.block_other rfl ?_) | refine Tri.ca ?_))
        (refine Post.ra ?_)
        exact ⟨_, ⟨rfl, rfl⟩, by (exact Ents.au)⟩
      · rw [if_neg (by omega)]
        obtain ⟨z, hz⟩ : ∃ z, z = if y < 0 then -x else x := ⟨_, rfl⟩
        rw [← hz]
        have ez : z.natAbs = x.natAbs := by rw [hz]; split <;> omega
        have em : mag x.natAbs = mag z.natAbs := by rw [ez]
        have eb : (!decide (decide (x < 0) = decide (y < 0)) && decide (x.natAbs ≠ 0)) = decide (z < 0) := by
          rw [hz, Bool.eq_iff_iff]
          simp only [Bool.and_eq_true, Bool.not_eq_true', decide_eq_false_iff_not, decide_eq_true_eq]
          by_cases k1 : x < 0 <;> by_cases k2 : y < 0 <;> simp [k1, k2] <;> omega
        have hR := rat_norm (n := z) h0
        have hl : Ln 1000000 (mkRat z y.natAbs) := by
          refine ⟨?_, ?_⟩
          · rw [hR.1]
            exact Nat.le_trans (mag_len_le (Int.natAbs_ediv_le_natAbs _ _)) (by rw [ez]; omega)
          · rw [hR.2]
            exact Nat.le_trans (mag_len_le (Nat.div_le_self _ _)) (by omega)
        (repeat' (first | (show TL _ _ _ _ (_ :: _) _ _ _; first | refine TL.sa ?_ | (refine TL.na ?_; intro _)) | (first | refine Stp.h ?_ | refine Post.then_normal ?_ | refine Post.next ?_ | refine Post.block_other rfl ?_) | refine Tri.ca ?_))
        refine Tri.dw [.cl b6 [.slice p1 (mag x.natAbs).length c1, .bool (decide (x < 0))] 100, .cl b7 [.slice p2 (mag y.natAbs).length c2, .bool (decide (y < 0))] 100] [] (.take 0 (.take 1 (.take 2 (.take 3 (.take 4 (.take 5 (.take 6 (.take 8 (.take 9 (.all [(7, .all [(10, .all [(11, .take 12 (.take 13 (.all [(14, .take 15 (.done))])))])])])))))))))) ?_
        (repeat' (first | (show TL _ _ _ _ (_ :: _) _ _ _; first | refine TL.sa ?_ | (refine TL.na ?_; intro _)) | (first | refine Stp.h ?_ | refine Post.then_normal ?_ | refine Post.next ?_ | refine Post.block_other rfl ?_) | (show TT _ _ _ _ _ _ _ _ _; refine TT.sa ?_) | exact TTs.nil | refine TTs.cons ?_ ?_ | (show T1 _ _ _ _ _ _ _ _ _ _; first | refine T1.sa ?_ | (refine T1.na ?_; intro _)) | (show TC _ _ _ _ _ _ _ _ _ _; first | refine TC.goa ?_ | refine TC.fina ?_) | refine Tri.ca ?_))
        refine T1.callv rfl rfl rfl rfl rfl (signed_ok (v := .slice p1 (mag x.natAbs).length c1) (n := x.natAbs)) ?_
        rintro _ _ ⟨rfl, rfl⟩
        rw [eb]
        (repeat' (first | (show TL _ _ _ _ (_ :: _) _ _ _; first | refine TL.sa ?_ | (refine TL.na ?_; intro _)) | (first | refine Stp.h ?_ | refine Post.then_normal ?_ | refine Post.next ?_ | refine Post.block_other rfl ?_) | (show TT _ _ _ _ _ _ _ _ _; refine TT.sa ?_) | exact TTs.nil | refine TTs.cons ?_ ?_ | (show T1 _ _ _ _ _ _ _ _ _ _; first | refine T1.sa ?_ | (refine T1.na ?_; intro _)) | (show TC _ _ _ _ _ _ _ _ _ _; first | refine TC.goa ?_ | refine TC.fina ?_) | refine Tri.ca ?_))
        rw [em]
        refine T1.callv rfl rfl rfl rfl rfl (reduced_ok (v := .slice p1 (mag z.natAbs).length c1) (o := .slice p2 (mag y.natAbs).length c2) (n := z) (d := y.natAbs) h0 (by rw [← em]; omega) (by omega)) ?_
        rintro _ _ ⟨p3, c3, p4, c4, rfl, rfl⟩
        (repeat' (first | (show TL _ _ _ _ (_ :: _) _ _ _; first | refine TL.sa ?_ | (refine TL.na ?_; intro _)) | (first | refine Stp.h ?_ | refine Post.then_normal ?_ | refine Post.next ?_ | refine Post.block_other rfl ?_) | (show TT _ _ _ _ _ _ _ _ _; refine TT.sa ?_) | exact TTs.nil | refine TTs.cons ?_ ?_ | (show T1 _ _ _ _ _ _ _ _ _ _; first | refine T1.sa ?_ | (refine T1.na ?_; intro _)) | (show TC _ _ _ _ _ _ _ _ _ _; first | refine TC.goa ?_ | refine TC.fina ?_) | refine Tri.ca ?_))
        refine T1.callv rfl rfl rfl rfl rfl (write_ok ht (mv := .slice p3 (mag (mkRat z y.natAbs).num.natAbs).length c3) (bv := .slice p4 (mag (mkRat z y.natAbs).den).length c4) (x := mkRat z y.natAbs) hl) ?_
        rintro _ _ ⟨rfl, rfl⟩
        (repeat' (first | (show TL _ _ _ _ (_ :: _) _ _ _; first | refine TL.sa ?_ | (refine TL.na ?_; intro _)) | (first | refine Stp.h ?_ | refine Post.then_normal ?_ | refine Post.next ?_ | refine Post.block_other rfl ?_) | (show TT _ _ _ _ _ _ _ _ _; refine TT.sa ?_) | exact TTs.nil | refine TTs.cons ?_ ?_ | (show T1 _ _ _ _ _ _ _ _ _ _; first | refine T1.sa ?_ | (refine T1.na ?_; intro _)) | (show TC _ _ _ _ _ _ _ _ _ _; first | refine TC.goa ?_ | refine TC.fina ?_) | refine Tri.ca ?_))
        (refine Post.ra ?_)
        exact ⟨_, ⟨rfl, rfl⟩, by (exact Ents.au)⟩
/-- the fraction of two ints -/
def ofO (n d : Int) : List UInt8 × List UInt8 × Int := if d = 0 then ([], [], 7) else outF (mkRat (if d < 0 then -n else n) d.natAbs)
theorem makeO_of {n d : Int} (hn : -9223372036854775808 ≤ n ∧ n ≤ 9223372036854775807) (hd : -9223372036854775808 ≤ d ∧ d ≤ 9223372036854775807) : makeO (textI n) (textI d) = ofO n d := by
  have h1 := small_digits hn
  have h2 := small_digits hd
  unfold makeO ofO
  rw [readW_text (by omega), readW_text (by omega)]
theorem ofF_ok (ht : Tab w0) {n d : Int} (hn : -9223372036854775808 ≤ n ∧ n ≤ 9223372036854775807) (hd : -9223372036854775808 ≤ d ∧ d ≤ 9223372036854775807) :
    CallsS Tryz.prog w0 43 [.int .i64 n, .int .i64 d] As fun u Bs => u = .tuple #[.agg #[.string ⟨(ofO n d).1.toArray⟩, .string ⟨(ofO n d).2.1.toArray⟩], .int .i64 (ofO n d).2.2] ∧ Bs = As := by
  refine CallsS.of_tri Tryz.func43 rfl Tryz.ntmps43 rfl ?_
  (repeat' (first | (show TL _ _ _ _ (_ :: _) _ _ _; first | refine TL.sa ?_ | (refine TL.na ?_; intro _)) | (first | refine Stp.h ?_ | refine Post.then_normal ?_ | refine Post.next ?_ | refine Post.block_other rfl ?_) | (show TT _ _ _ _ _ _ _ _ _; refine TT.sa ?_) | exact TTs.nil | refine TTs.cons ?_ ?_ | (show T1 _ _ _ _ _ _ _ _ _ _; first | refine T1.sa ?_ | (refine T1.na ?_; intro _)) | (show TC _ _ _ _ _ _ _ _ _ _; first | refine TC.goa ?_ | refine TC.fina ?_) | refine Tri.ca ?_))
  have ln : ∀ {z : Int}, (-9223372036854775808 ≤ z ∧ z ≤ 9223372036854775807) → (textI z).length ≤ 1000000000 := fun {z} h => by
    have h1 := small_digits h
    rw [textI_eq]
    split
    · rw [List.length_cons, dec_len]; omega
    · rw [dec_len]; omega
  refine TL.call rfl rfl rfl (ofInt_ok ht hn.1 hn.2) ?_
  rintro _ _ ⟨rfl, rfl⟩
  (repeat' (first | (show TL _ _ _ _ (_ :: _) _ _ _; first | refine TL.sa ?_ | (refine TL.na ?_; intro _)) | (first | refine Stp.h ?_ | refine Post.then_normal ?_ | refine Post.next ?_ | refine Post.block_other rfl ?_) | refine Tri.ca ?_))
  refine TL.call rfl rfl rfl (ofInt_ok ht hd.1 hd.2) ?_
  rintro _ _ ⟨rfl, rfl⟩
  (repeat' (first | (show TL _ _ _ _ (_ :: _) _ _ _; first | refine TL.sa ?_ | (refine TL.na ?_; intro _)) | (first | refine Stp.h ?_ | refine Post.then_normal ?_ | refine Post.next ?_ | refine Post.block_other rfl ?_) | refine Tri.ca ?_))
  refine TL.call rfl rfl rfl (makeF_ok ht (ln hn) (ln hd)) ?_
  rintro _ _ ⟨rfl, rfl⟩
  rw [makeO_of hn hd]
  (repeat' (first | (show TL _ _ _ _ (_ :: _) _ _ _; first | refine TL.sa ?_ | (refine TL.na ?_; intro _)) | (first | refine Stp.h ?_ | refine Post.then_normal ?_ | refine Post.next ?_ | refine Post.block_other rfl ?_) | refine Tri.ca ?_))
  (refine Post.ra ?_)
  exact ⟨_, ⟨rfl, rfl⟩, by (exact Ents.au)⟩
/-- a fraction held between two others, or an error -/
def clampO (a l h : Option Rat) : List UInt8 × List UInt8 × Int := match a, l, h with
  | some x, some y, some z => if z < y then ([], [], 2) else outF (minQ (maxQ x y) z)
  | _, _, _ => ([], [], 20)
theorem Ln.minQ {k : Nat} {x y : Rat} (hx : Ln k x) (hy : Ln k y) : Ln k (minQ x y) := by unfold Q.minQ; split; exact hy; exact hx
theorem Ln.maxQ {k : Nat} {x y : Rat} (hx : Ln k x) (hy : Ln k y) : Ln k (maxQ x y) := by unfold Q.maxQ; split; exact hy; exact hx
set_option maxHeartbeats 2000000 in
theorem clampF_ok (ht : Tab w0) {a b c d g h : List UInt8} (ha : a.length ≤ 1000000000) (hb : b.length ≤ 1000000000) (hc : c.length ≤ 1000000000) (hd : d.length ≤ 1000000000) (hg : g.length ≤ 1000000000) (hh : h.length ≤ 1000000000) :
    CallsS Tryz.prog w0 42 [.agg #[.string ⟨a.toArray⟩, .string ⟨b.toArray⟩], .agg #[.string ⟨c.toArray⟩, .string ⟨d.toArray⟩], .agg #[.string ⟨g.toArray⟩, .string ⟨h.toArray⟩]] As fun u Bs => u = .tuple #[.agg #[.string ⟨(clampO (readF a b) (readF c d) (readF g h)).1.toArray⟩, .string ⟨(clampO (readF a b) (readF c d) (readF g h)).2.1.toArray⟩], .int .i64 (clampO (readF a b) (readF c d) (readF g h)).2.2] ∧ Bs = As := by
  refine CallsS.of_tri Tryz.func42 rfl Tryz.ntmps42 rfl ?_
  (repeat' (first | (show TL _ _ _ _ (_ :: _) _ _ _; first | refine TL.sa ?_ | (refine TL.na ?_; intro _)) | (first | refine Stp.h ?_ | refine Post.then_normal ?_ | refine Post.next ?_ | refine Post.block_other rfl ?_) | refine Tri.ca ?_))
  rename_i b3 b4 b5 b6
  refine TL.call rfl rfl rfl (read_ok ha hb) ?_
  intro _ _ h1
  cases hx : readF a b with
  | none =>
    rw [hx] at h1
    obtain ⟨rfl, rfl⟩ := h1
    (repeat' (first | (show TL _ _ _ _ (_ :: _) _ _ _; first | refine TL.sa ?_ | (refine TL.na ?_; intro _)) | (first | refine Stp.h ?_ | refine Post.then_normal ?_ | refine Post.next ?_ | refine Post.block_other rfl ?_) | refine Tri.ca ?_))
    refine TL.call rfl rfl rfl (read_ok hc hd) ?_
    intro _ _ h2
    cases hy : readF c d with
    | none =>
      rw [hy] at h2
      obtain ⟨rfl, rfl⟩ := h2
      (repeat' (first | (show TL _ _ _ _ (_ :: _) _ _ _; first | refine TL.sa ?_ | (refine TL.na ?_; intro _)) | (first | refine Stp.h ?_ | refine Post.then_normal ?_ | refine Post.next ?_ | refine Post.block_other rfl ?_) | refine Tri.ca ?_))
      refine TL.call rfl rfl rfl (read_ok hg hh) ?_
      intro _ _ h3
      cases hz : readF g h with
      | none =>
        rw [hz] at h3
        obtain ⟨rfl, rfl⟩ := h3
        (repeat' (first | (show TL _ _ _ _ (_ :: _) _ _ _; first | refine TL.sa ?_ | (refine TL.na ?_; intro _)) | (first | refine Stp.h ?_ | refine Post.then_normal ?_ | refine Post.next ?_ | refine Post.block_other rfl ?_) | refine Tri.ca ?_))
        (refine Post.ra ?_)
        exact ⟨_, ⟨rfl, rfl⟩, by (exact Ents.au)⟩
      | some z =>
        rw [hz] at h3
        obtain ⟨r1, m1, r2, m2, rfl, rfl⟩ := h3
        (repeat' (first | (show TL _ _ _ _ (_ :: _) _ _ _; first | refine TL.sa ?_ | (refine TL.na ?_; intro _)) | (first | refine Stp.h ?_ | refine Post.then_normal ?_ | refine Post.next ?_ | refine Post.block_other rfl ?_) | refine Tri.ca ?_))
        (refine Post.ra ?_)
        exact ⟨_, ⟨rfl, rfl⟩, by (exact Ents.au)⟩
    | some y =>
      rw [hy] at h2
      obtain ⟨q1, k1, q2, k2, rfl, rfl⟩ := h2
      (repeat' (first | (show TL _ _ _ _ (_ :: _) _ _ _; first | refine TL.sa ?_ | (refine TL.na ?_; intro _)) | (first | refine Stp.h ?_ | refine Post.then_normal ?_ | refine Post.next ?_ | refine Post.block_other rfl ?_) | refine Tri.ca ?_))
      refine TL.call rfl rfl rfl (read_ok hg hh) ?_
      intro _ _ h3
      cases hz : readF g h with
      | none =>
        rw [hz] at h3
        obtain ⟨rfl, rfl⟩ := h3
        (repeat' (first | (show TL _ _ _ _ (_ :: _) _ _ _; first | refine TL.sa ?_ | (refine TL.na ?_; intro _)) | (first | refine Stp.h ?_ | refine Post.then_normal ?_ | refine Post.next ?_ | refine Post.block_other rfl ?_) | refine Tri.ca ?_))
        (refine Post.ra ?_)
        exact ⟨_, ⟨rfl, rfl⟩, by (exact Ents.au)⟩
      | some z =>
        rw [hz] at h3
        obtain ⟨r1, m1, r2, m2, rfl, rfl⟩ := h3
        (repeat' (first | (show TL _ _ _ _ (_ :: _) _ _ _; first | refine TL.sa ?_ | (refine TL.na ?_; intro _)) | (first | refine Stp.h ?_ | refine Post.then_normal ?_ | refine Post.next ?_ | refine Post.block_other rfl ?_) | refine Tri.ca ?_))
        (refine Post.ra ?_)
        exact ⟨_, ⟨rfl, rfl⟩, by (exact Ents.au)⟩
  | some x =>
    rw [hx] at h1
    obtain ⟨p1, c1, p2, c2, rfl, rfl⟩ := h1
    (repeat' (first | (show TL _ _ _ _ (_ :: _) _ _ _; first | refine TL.sa ?_ | (refine TL.na ?_; intro _)) | (first | refine Stp.h ?_ | refine Post.then_normal ?_ | refine Post.next ?_ | refine Post.block_other rfl ?_) | refine Tri.ca ?_))
    rename_i b8
    refine TL.call rfl rfl rfl (read_ok hc hd) ?_
    intro _ _ h2
    cases hy : readF c d with
    | none =>
      rw [hy] at h2
      obtain ⟨rfl, rfl⟩ := h2
      (repeat' (first | (show TL _ _ _ _ (_ :: _) _ _ _; first | refine TL.sa ?_ | (refine TL.na ?_; intro _)) | (first | refine Stp.h ?_ | refine Post.then_normal ?_ | refine Post.next ?_ | refine Post.block_other rfl ?_) | refine Tri.ca ?_))
      refine TL.call rfl rfl rfl (read_ok hg hh) ?_
      intro _ _ h3
      cases hz : readF g h with
      | none =>
        rw [hz] at h3
        obtain ⟨rfl, rfl⟩ := h3
        (repeat' (first | (show TL _ _ _ _ (_ :: _) _ _ _; first | refine TL.sa ?_ | (refine TL.na ?_; intro _)) | (first | refine Stp.h ?_ | refine Post.then_normal ?_ | refine Post.next ?_ | refine Post.block_other rfl ?_) | refine Tri.ca ?_))
        (refine Post.ra ?_)
        exact ⟨_, ⟨rfl, rfl⟩, by (exact Ents.au)⟩
      | some z =>
        rw [hz] at h3
        obtain ⟨r1, m1, r2, m2, rfl, rfl⟩ := h3
        (repeat' (first | (show TL _ _ _ _ (_ :: _) _ _ _; first | refine TL.sa ?_ | (refine TL.na ?_; intro _)) | (first | refine Stp.h ?_ | refine Post.then_normal ?_ | refine Post.next ?_ | refine Post.block_other rfl ?_) | refine Tri.ca ?_))
        (refine Post.ra ?_)
        exact ⟨_, ⟨rfl, rfl⟩, by (exact Ents.au)⟩
    | some y =>
      rw [hy] at h2
      obtain ⟨q1, k1, q2, k2, rfl, rfl⟩ := h2
      (repeat' (first | (show TL _ _ _ _ (_ :: _) _ _ _; first | refine TL.sa ?_ | (refine TL.na ?_; intro _)) | (first | refine Stp.h ?_ | refine Post.then_normal ?_ | refine Post.next ?_ | refine Post.block_other rfl ?_) | refine Tri.ca ?_))
      rename_i b10
      refine TL.call rfl rfl rfl (read_ok hg hh) ?_
      intro _ _ h3
      cases hz : readF g h with
      | none =>
        rw [hz] at h3
        obtain ⟨rfl, rfl⟩ := h3
        (repeat' (first | (show TL _ _ _ _ (_ :: _) _ _ _; first | refine TL.sa ?_ | (refine TL.na ?_; intro _)) | (first | refine Stp.h ?_ | refine Post.then_normal ?_ | refine Post.next ?_ | refine Post.block_other rfl ?_) | refine Tri.ca ?_))
        (refine Post.ra ?_)
        exact ⟨_, ⟨rfl, rfl⟩, by (exact Ents.au)⟩
      | some z =>
        rw [hz] at h3
        obtain ⟨r1, m1, r2, m2, rfl, rfl⟩ := h3
        have lx := readF_ln hx
        have ly := readF_ln hy
        have lz := readF_ln hz
        have ho := @ordQ_gt y z
        (repeat' (first | (show TL _ _ _ _ (_ :: _) _ _ _; first | refine TL.sa ?_ | (refine TL.na ?_; intro _)) | (first | refine Stp.h ?_ | refine Post.then_normal ?_ | refine Post.next ?_ | refine Post.block_other rfl ?_) | refine Tri.ca ?_))
        rename_i b12
        refine TL.callv rfl rfl rfl rfl (order_ok (mv := .slice q1 (mag y.num.natAbs).length k1) (bv := .slice q2 (mag y.den).length k2) (nv := .slice r1 (mag z.num.natAbs).length m1) (cv := .slice r2 (mag z.den).length m2) (x := y) (y := z) (ly.mono (by omega)) (lz.mono (by omega))) ?_
        rintro _ _ ⟨rfl, rfl⟩
        by_cases hlt : z < y
        · have h0 := ho.2 hlt
          rw [clampO, if_pos hlt]
          (repeat' (first | (show TL _ _ _ _ (_ :: _) _ _ _; first | refine TL.sa ?_ | (refine TL.na ?_; intro _)) | (first | refine Stp.h ?_ | refine Post.then_normal ?_ | refine Post.next ?_ | refine Post.block_other rfl ?_) | refine Tri.ca ?_))
          (refine Post.ra ?_)
          exact ⟨_, ⟨rfl, rfl⟩, by (exact Ents.au)⟩
        · have h0 : ¬ 0 < ordQ y z := fun h => hlt (ho.1 h)
          rw [clampO, if_neg hlt]
          (repeat' (first | (show TL _ _ _ _ (_ :: _) _ _ _; first | refine TL.sa ?_ | (refine TL.na ?_; intro _)) | (first | refine Stp.h ?_ | refine Post.then_normal ?_ | refine Post.next ?_ | refine Post.block_other rfl ?_) | refine Tri.ca ?_))
          refine Tri.dw [.cl b8 [.slice p1 (mag x.num.natAbs).length c1, .bool (decide (x.num < 0)), .slice p2 (mag x.den).length c2] 102, .cl b10 [.slice q1 (mag y.num.natAbs).length k1, .bool (decide (y.num < 0)), .slice q2 (mag y.den).length k2] 102, .cl b12 [.slice r1 (mag z.num.natAbs).length m1, .bool (decide (z.num < 0)), .slice r2 (mag z.den).length m2] 102] [] (.take 0 (.take 1 (.take 3 (.all [(2, .all [(4, .all [(5, .take 6 (.take 7 (.all [(8, .take 9 (.done))])))])])])))) ?_
          (repeat' (first | (show TL _ _ _ _ (_ :: _) _ _ _; first | refine TL.sa ?_ | (refine TL.na ?_; intro _)) | (first | refine Stp.h ?_ | refine Post.then_normal ?_ | refine Post.next ?_ | refine Post.block_other rfl ?_) | (show TT _ _ _ _ _ _ _ _ _; refine TT.sa ?_) | exact TTs.nil | refine TTs.cons ?_ ?_ | (show T1 _ _ _ _ _ _ _ _ _ _; first | refine T1.sa ?_ | (refine T1.na ?_; intro _)) | (show TC _ _ _ _ _ _ _ _ _ _; first | refine TC.goa ?_ | refine TC.fina ?_) | refine Tri.ca ?_))
          refine T1.callv rfl rfl rfl rfl rfl (greater_ok (mv := .slice p1 (mag x.num.natAbs).length c1) (bv := .slice p2 (mag x.den).length c2) (nv := .slice q1 (mag y.num.natAbs).length k1) (cv := .slice q2 (mag y.den).length k2) (x := x) (y := y) (lx.mono (by omega)) (ly.mono (by omega))) ?_
          rintro _ _ ⟨s1, n1, s2, n2, rfl, rfl⟩
          (repeat' (first | (show TL _ _ _ _ (_ :: _) _ _ _; first | refine TL.sa ?_ | (refine TL.na ?_; intro _)) | (first | refine Stp.h ?_ | refine Post.then_normal ?_ | refine Post.next ?_ | refine Post.block_other rfl ?_) | (show TT _ _ _ _ _ _ _ _ _; refine TT.sa ?_) | exact TTs.nil | refine TTs.cons ?_ ?_ | (show T1 _ _ _ _ _ _ _ _ _ _; first | refine T1.sa ?_ | (refine T1.na ?_; intro _)) | (show TC _ _ _ _ _ _ _ _ _ _; first | refine TC.goa ?_ | refine TC.fina ?_) | refine Tri.ca ?_))
          refine T1.callv rfl rfl rfl rfl rfl (lesser_ok (mv := .slice s1 (mag (maxQ x y).num.natAbs).length n1) (bv := .slice s2 (mag (maxQ x y).den).length n2) (nv := .slice r1 (mag z.num.natAbs).length m1) (cv := .slice r2 (mag z.den).length m2) (x := maxQ x y) (y := z) ((lx.maxQ ly).mono (by omega)) (lz.mono (by omega))) ?_
          rintro _ _ ⟨s3, n3, s4, n4, rfl, rfl⟩
          (repeat' (first | (show TL _ _ _ _ (_ :: _) _ _ _; first | refine TL.sa ?_ | (refine TL.na ?_; intro _)) | (first | refine Stp.h ?_ | refine Post.then_normal ?_ | refine Post.next ?_ | refine Post.block_other rfl ?_) | (show TT _ _ _ _ _ _ _ _ _; refine TT.sa ?_) | exact TTs.nil | refine TTs.cons ?_ ?_ | (show T1 _ _ _ _ _ _ _ _ _ _; first | refine T1.sa ?_ | (refine T1.na ?_; intro _)) | (show TC _ _ _ _ _ _ _ _ _ _; first | refine TC.goa ?_ | refine TC.fina ?_) | refine Tri.ca ?_))
          refine T1.callv rfl rfl rfl rfl rfl (write_ok ht (mv := .slice s3 (mag (minQ (maxQ x y) z).num.natAbs).length n3) (bv := .slice s4 (mag (minQ (maxQ x y) z).den).length n4) (x := minQ (maxQ x y) z) (((lx.maxQ ly).minQ lz).mono (by omega))) ?_
          rintro _ _ ⟨rfl, rfl⟩
          (repeat' (first | (show TL _ _ _ _ (_ :: _) _ _ _; first | refine TL.sa ?_ | (refine TL.na ?_; intro _)) | (first | refine Stp.h ?_ | refine Post.then_normal ?_ | refine Post.next ?_ | refine Post.block_other rfl ?_) | (show TT _ _ _ _ _ _ _ _ _; refine TT.sa ?_) | exact TTs.nil | refine TTs.cons ?_ ?_ | (show T1 _ _ _ _ _ _ _ _ _ _; first | refine T1.sa ?_ | (refine T1.na ?_; intro _)) | (show TC _ _ _ _ _ _ _ _ _ _; first | refine TC.goa ?_ | refine TC.fina ?_) | refine Tri.ca ?_))
          (refine Post.ra ?_)
          exact ⟨_, ⟨rfl, rfl⟩, by (exact Ents.au)⟩
/-- a power, or an error -/
def powO (a b : List UInt8) (n : Int) : List UInt8 × List UInt8 × Int := match readF a b with
  | none => ([], [], 20)
  | some _ => if (powW a n).2 ≠ 0 then ([], [], (powW a n).2) else if (powW b n).2 ≠ 0 then ([], [], (powW b n).2) else ((powW a n).1, (powW b n).1, 0)
theorem powF_ok (ht : Tab w0) {a b : List UInt8} {n : Int} (ha : a.length ≤ 1000000000) (hb : b.length ≤ 1000000000) (hn0 : -9223372036854775808 ≤ n) (hn1 : n ≤ 9223372036854775807) :
    CallsS Tryz.prog w0 13 [.agg #[.string ⟨a.toArray⟩, .string ⟨b.toArray⟩], .int .i64 n] As fun u Bs => u = .tuple #[.agg #[.string ⟨(powO a b n).1.toArray⟩, .string ⟨(powO a b n).2.1.toArray⟩], .int .i64 (powO a b n).2.2] ∧ Bs = As := by
  refine CallsS.of_tri Tryz.func13 rfl Tryz.ntmps13 rfl ?_
  (repeat' (first | (show TL _ _ _ _ (_ :: _) _ _ _; first | refine TL.sa ?_ | (refine TL.na ?_; intro _)) | (first | refine Stp.h ?_ | refine Post.then_normal ?_ | refine Post.next ?_ | refine Post.block_other rfl ?_) | (show TT _ _ _ _ _ _ _ _ _; refine TT.sa ?_) | exact TTs.nil | refine TTs.cons ?_ ?_ | (show T1 _ _ _ _ _ _ _ _ _ _; first | refine T1.sa ?_ | (refine T1.na ?_; intro _)) | (show TC _ _ _ _ _ _ _ _ _ _; first | refine TC.goa ?_ | refine TC.fina ?_) | refine Tri.ca ?_))
  refine TL.call rfl rfl rfl (checkF_ok ha hb) ?_
  rintro _ _ ⟨rfl, rfl⟩
  cases hx : readF a b with
  | none =>
    rw [powO, hx]
    (repeat' (first | (show TL _ _ _ _ (_ :: _) _ _ _; first | refine TL.sa ?_ | (refine TL.na ?_; intro _)) | (first | refine Stp.h ?_ | refine Post.then_normal ?_ | refine Post.next ?_ | refine Post.block_other rfl ?_) | (show TT _ _ _ _ _ _ _ _ _; refine TT.sa ?_) | exact TTs.nil | refine TTs.cons ?_ ?_ | (show T1 _ _ _ _ _ _ _ _ _ _; first | refine T1.sa ?_ | (refine T1.na ?_; intro _)) | (show TC _ _ _ _ _ _ _ _ _ _; first | refine TC.goa ?_ | refine TC.fina ?_) | refine Tri.ca ?_))
    (refine Post.ra ?_)
    exact ⟨_, ⟨rfl, rfl⟩, by (exact Ents.au)⟩
  | some x =>
    rw [powO, hx]
    dsimp only
    (repeat' (first | (show TL _ _ _ _ (_ :: _) _ _ _; first | refine TL.sa ?_ | (refine TL.na ?_; intro _)) | (first | refine Stp.h ?_ | refine Post.then_normal ?_ | refine Post.next ?_ | refine Post.block_other rfl ?_) | refine Tri.ca ?_))
    refine TL.call rfl rfl rfl (pow_ok ht (s := a) ha hn0 hn1) ?_
    rintro _ _ ⟨rfl, rfl⟩
    generalize powW a n = w
    obtain ⟨w1, w2⟩ := w
    by_cases h1 : w2 = 0
    · subst h1
      (repeat' (first | (show TL _ _ _ _ (_ :: _) _ _ _; first | refine TL.sa ?_ | (refine TL.na ?_; intro _)) | (first | refine Stp.h ?_ | refine Post.then_normal ?_ | refine Post.next ?_ | refine Post.block_other rfl ?_) | refine Tri.ca ?_))
      refine TL.call rfl rfl rfl (pow_ok ht (s := b) hb hn0 hn1) ?_
      rintro _ _ ⟨rfl, rfl⟩
      generalize powW b n = v
      obtain ⟨v1, v2⟩ := v
      by_cases h2 : v2 = 0
      · subst h2
        (repeat' (first | (show TL _ _ _ _ (_ :: _) _ _ _; first | refine TL.sa ?_ | (refine TL.na ?_; intro _)) | (first | refine Stp.h ?_ | refine Post.then_normal ?_ | refine Post.next ?_ | refine Post.block_other rfl ?_) | refine Tri.ca ?_))
        (refine Post.ra ?_)
        exact ⟨_, ⟨rfl, rfl⟩, by (exact Ents.au)⟩
      · (repeat' (first | (show TL _ _ _ _ (_ :: _) _ _ _; first | refine TL.sa ?_ | (refine TL.na ?_; intro _)) | (first | refine Stp.h ?_ | refine Post.then_normal ?_ | refine Post.next ?_ | refine Post.block_other rfl ?_) | refine Tri.ca ?_))
        (refine Post.ra ?_)
        exact ⟨_, ⟨by simp [h2], rfl⟩, by (exact Ents.au)⟩
    · (repeat' (first | (show TL _ _ _ _ (_ :: _) _ _ _; first | refine TL.sa ?_ | (refine TL.na ?_; intro _)) | (first | refine Stp.h ?_ | refine Post.then_normal ?_ | refine Post.next ?_ | refine Post.block_other rfl ?_) | refine Tri.ca ?_))
      (refine Post.ra ?_)
      exact ⟨_, ⟨by simp [h1], rfl⟩, by (exact Ents.au)⟩
end Go.Proofs.YtldljckhfcoafaaGreatDoor.Q
