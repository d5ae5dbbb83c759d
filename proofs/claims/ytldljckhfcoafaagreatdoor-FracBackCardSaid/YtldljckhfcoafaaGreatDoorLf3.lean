/- Walks: operations on valid fractions, in short; the law of the field. -/
import Derived.Test.YtldljckhfcoafaaGreatDoorLf2
import Derived.Test.YtldljckhfcoafaaGreatDoorCd1
namespace Go.Sx
open Go
/-- the texts of a fraction -/
def tN (r : Rat) : List UInt8 := textI r.num
def tD (r : Rat) : List UInt8 := textI (r.den : Int)
theorem tN_len {r : Rat} (h : Fit 600 r) : (tN r).length ≤ 1000000000 := by
  have := textI_len r.num
  have h1 := h.1
  unfold tN
  split at this <;> omega
theorem tD_len {r : Rat} (h : Fit 600 r) : (tD r).length ≤ 1000000000 := by
  have := textI_len (r.den : Int)
  have h1 := h.2
  unfold tD
  rw [Int.natAbs_natCast] at this
  split at this <;> omega
theorem Fit.rd {r : Rat} (h : Fit 600 r) : readF (tN r) (tD r) = some r := h.read
theorem Fit.ot {r : Rat} (h : Fit 600 r) : outF r = (tN r, tD r, 0) := h.out
end Go.Sx
namespace Go.Proofs.YtldljckhfcoafaaGreatDoor.Q
open Go Go.Sx
variable {w0 : World} {As : List Ent}
theorem addT_ok (ht : Tab w0) {r s : Rat} (hr : Fit 600 r) (hs : Fit 600 s) (h : Fit 600 (r + s)) :
    CallsS Tryz.prog w0 22 [.agg #[.string ⟨(tN r).toArray⟩, .string ⟨(tD r).toArray⟩], .agg #[.string ⟨(tN s).toArray⟩, .string ⟨(tD s).toArray⟩]] As fun u Bs => u = .tuple #[.agg #[.string ⟨(tN (r + s)).toArray⟩, .string ⟨(tD (r + s)).toArray⟩], .int .i64 0] ∧ Bs = As := by
  have k := addF_ok (w0 := w0) (As := As) ht (tN_len hr) (tD_len hr) (tN_len hs) (tD_len hs)
  rw [hr.rd, hs.rd] at k
  simp only [ap2, outO] at k
  rw [h.ot] at k
  exact k
theorem subT_ok (ht : Tab w0) {r s : Rat} (hr : Fit 600 r) (hs : Fit 600 s) (h : Fit 600 (r - s)) :
    CallsS Tryz.prog w0 23 [.agg #[.string ⟨(tN r).toArray⟩, .string ⟨(tD r).toArray⟩], .agg #[.string ⟨(tN s).toArray⟩, .string ⟨(tD s).toArray⟩]] As fun u Bs => u = .tuple #[.agg #[.string ⟨(tN (r - s)).toArray⟩, .string ⟨(tD (r - s)).toArray⟩], .int .i64 0] ∧ Bs = As := by
  have k := subF_ok (w0 := w0) (As := As) ht (tN_len hr) (tD_len hr) (tN_len hs) (tD_len hs)
  rw [hr.rd, hs.rd] at k
  simp only [ap2, outO] at k
  rw [h.ot] at k
  exact k
theorem mulT_ok (ht : Tab w0) {r s : Rat} (hr : Fit 600 r) (hs : Fit 600 s) (h : Fit 600 (r * s)) :
    CallsS Tryz.prog w0 25 [.agg #[.string ⟨(tN r).toArray⟩, .string ⟨(tD r).toArray⟩], .agg #[.string ⟨(tN s).toArray⟩, .string ⟨(tD s).toArray⟩]] As fun u Bs => u = .tuple #[.agg #[.string ⟨(tN (r * s)).toArray⟩, .string ⟨(tD (r * s)).toArray⟩], .int .i64 0] ∧ Bs = As := by
  have k := mulF_ok (w0 := w0) (As := As) ht (tN_len hr) (tD_len hr) (tN_len hs) (tD_len hs)
  rw [hr.rd, hs.rd] at k
  simp only [ap2, outO] at k
  rw [h.ot] at k
  exact k
theorem divT_ok (ht : Tab w0) {r s : Rat} (hr : Fit 600 r) (hs : Fit 600 s) (h0 : s ≠ 0) (h : Fit 600 (r * s⁻¹)) :
    CallsS Tryz.prog w0 26 [.agg #[.string ⟨(tN r).toArray⟩, .string ⟨(tD r).toArray⟩], .agg #[.string ⟨(tN s).toArray⟩, .string ⟨(tD s).toArray⟩]] As fun u Bs => u = .tuple #[.agg #[.string ⟨(tN (r * s⁻¹)).toArray⟩, .string ⟨(tD (r * s⁻¹)).toArray⟩], .int .i64 0] ∧ Bs = As := by
  have k := divF_ok (w0 := w0) (As := As) ht (tN_len hr) (tD_len hr) (tN_len hs) (tD_len hs)
  rw [hr.rd, hs.rd] at k
  simp only [divO] at k
  rw [if_neg h0, h.ot] at k
  exact k
end Go.Proofs.YtldljckhfcoafaaGreatDoor.Q
