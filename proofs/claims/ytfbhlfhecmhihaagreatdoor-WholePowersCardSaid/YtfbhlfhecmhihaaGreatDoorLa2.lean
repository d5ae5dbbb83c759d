/- Walks: the layer's functions at texts of numbers; drafts. -/
import Derived.Test.YtfbhlfhecmhihaaGreatDoorLw1
namespace Go.Sx
open Go
/-- at most 600 digits -/
class Dg (z : Int) : Prop where
  h : Lib.nDigits z.natAbs ≤ 600
theorem Dg.read {z : Int} (h : Dg z) : readW (textI z) = some z := readW_text h.h
theorem Dg.len {z : Int} (h : Dg z) : (textI z).length ≤ 1000000000 := by
  have h1 := h.h
  rw [textI_eq]
  split
  · rw [List.length_cons, dec_len]; omega
  · rw [dec_len]; omega
theorem Dg.out {z : Int} (h : Dg z) : outW z = (textI z, 0) := outW_ok h.h
def Sm (k : Nat) (z : Int) : Prop := z.natAbs < 10 ^ k
theorem Sm.mono {i j : Nat} {z : Int} (h : Sm i z) (hij : i ≤ j) : Sm j z := Nat.lt_of_lt_of_le h (Nat.pow_le_pow_right (by omega) hij)
theorem Sm.dg {k : Nat} {z : Int} (h : Sm k z) (hk : k ≤ 600) : Dg z := ⟨by
  have h1 : Sm (k + 1) z := h.mono (by omega)
  rcases Nat.eq_zero_or_pos k with h0 | h0
  · subst h0
    have : z.natAbs = 0 := by simpa [Sm] using h
    rw [this, Lib.nDigits_small (by decide)]; omega
  · exact Nat.le_trans (nDigits_lt h0 h) hk⟩
theorem Sm.add {k : Nat} {x y : Int} (hx : Sm k x) (hy : Sm k y) : Sm (k + 1) (x + y) := by
  unfold Sm at *
  have := Int.natAbs_add_le x y
  rw [Nat.pow_succ]
  omega
theorem Sm.neg {k : Nat} {x : Int} (hx : Sm k x) : Sm k (-x) := by unfold Sm at *; rw [Int.natAbs_neg]; exact hx
theorem Sm.abs {k : Nat} {x : Int} (hx : Sm k x) : Sm k (x.natAbs : Int) := by unfold Sm at *; rw [Int.natAbs_natCast]; exact hx
theorem Sm.sub {k : Nat} {x y : Int} (hx : Sm k x) (hy : Sm k y) : Sm (k + 1) (x - y) := by
  rw [Int.sub_eq_add_neg]; exact hx.add hy.neg
theorem Sm.mul {i j : Nat} {x y : Int} (hx : Sm i x) (hy : Sm j y) : Sm (i + j) (x * y) := by
  unfold Sm at *
  rw [Int.natAbs_mul, Nat.pow_add]
  exact Nat.mul_lt_mul'' hx hy
theorem Sm.div {i : Nat} {x y : Int} (hx : Sm i x) : Sm i (x / y) := Nat.lt_of_le_of_lt (Int.natAbs_ediv_le_natAbs x y) hx
theorem Sm.mod {j : Nat} {x y : Int} (hy : Sm j y) (h0 : y ≠ 0) : Sm j (x % y) := Nat.lt_trans (mod_natAbs h0) hy
theorem Sm.pow {i : Nat} {x : Int} (hx : Sm i x) (n : Nat) : Sm (i * n + 1) (x ^ n) := by
  unfold Sm at *
  rw [Int.natAbs_pow, Nat.pow_succ, Nat.pow_mul]
  have h1 := Nat.pow_le_pow_left (Nat.le_of_lt hx) n
  have h2 : 0 < (10 ^ i) ^ n := Nat.pow_pos (Nat.pow_pos (by omega))
  omega
theorem Sm.gcd {i : Nat} {x y : Int} (hx : Sm i x) (hy : Sm i y) : Sm i (gcdI x y) := by
  unfold Sm gcdI at *
  rw [Int.natAbs_natCast]
  by_cases h0 : x.natAbs = 0
  · rw [h0, Nat.gcd_zero_left]; exact hy
  · exact Nat.lt_of_le_of_lt (Nat.gcd_le_left _ (by omega)) hx
theorem Sm.root {i : Nat} {x : Int} {k : Nat} (hx : Sm i x) (hk : 0 < k) : Sm i (rootN x.natAbs k : Nat) := by
  unfold Sm at *
  rw [Int.natAbs_natCast]
  exact Nat.lt_of_le_of_lt (le_of_pow hk (rootN_pow hk)) hx
theorem Sm.size (d : D01) (k : Nat) (hg : d.gs.length ≤ 12 → groupsD (d.gs.take 12) < 10 ^ k) : Sm 36 (groupsD (d.gs.take 12) : Nat) := by
  unfold Sm
  have h1 := groupsD_lt d.gs 12
  rw [Int.natAbs_natCast, show (10 : Nat) ^ 36 = 1000 ^ 12 by rw [show (1000 : Nat) = 10 ^ 3 from rfl, ← Nat.pow_mul]]
  exact h1
theorem D01.sm (d : D01) : Sm (36 + d.zeros % 501) d.num := by
  unfold Sm
  rw [d.natAbs]
  have h1 := groupsD_lt d.gs 12
  have h3 : (1000 : Nat) ^ 12 = 10 ^ 36 := by rw [show (1000 : Nat) = 10 ^ 3 from rfl, ← Nat.pow_mul]
  rw [h3] at h1
  exact mul_ten_lt h1 (Nat.le_refl _)
/-- the draft with fewer zeros -/
def D01.short (d : D01) : D01 := { d with zeros := d.zeros % 150 }
theorem D01.short_sm (d : D01) : Sm 185 d.short.num := d.short.sm.mono (by simp only [D01.short]; omega)
theorem textI_inj {x y : Int} (hx : Dg x) (hy : Dg y) : textI x = textI y ↔ x = y := by
  constructor
  · intro h
    have h1 := hx.read
    rw [h, hy.read] at h1
    exact (Option.some.inj h1).symm
  · rintro rfl; rfl
theorem textI_zero : textI 0 = [48] := by rw [textI_eq, if_neg (by omega)]; exact dec_small (by decide)
theorem Dg.zero : Dg 0 := Sm.dg (k := 1) (by unfold Sm; decide) (by decide)
theorem textI_zero_iff {x : Int} (hx : Dg x) : textI x = [48] ↔ x = 0 := by rw [← textI_zero]; exact textI_inj hx Dg.zero
theorem textI_one : textI 1 = [49] := by rw [textI_eq, if_neg (by omega)]; exact dec_small (by decide)
theorem Dg.one : Dg 1 := Sm.dg (k := 1) (by unfold Sm; decide) (by decide)
end Go.Sx
namespace Go.Proofs.YtfbhlfhecmhihaaGreatDoor
open Go Go.Sx
variable {w0 : World} {As : List Ent}
theorem addN_ok (ht : Tab w0) {x y : Int} [hx : Dg x] [hy : Dg y] [hz : Dg (x + y)] : CallsS Tryz.prog w0 32 [.string ⟨(textI x).toArray⟩, .string ⟨(textI y).toArray⟩] As fun u Bs => u = .tuple #[.string ⟨(textI (x + y)).toArray⟩, .int .i64 0] ∧ Bs = As :=
  (add_okB ht hx.len hy.len).mono fun u Bs ⟨h1, h2⟩ => ⟨by rw [h1]; unfold binW; rw [hx.read, hy.read]; simp only []; rw [hz.out], h2⟩
theorem subN_ok (ht : Tab w0) {x y : Int} [hx : Dg x] [hy : Dg y] [hz : Dg (x - y)] : CallsS Tryz.prog w0 33 [.string ⟨(textI x).toArray⟩, .string ⟨(textI y).toArray⟩] As fun u Bs => u = .tuple #[.string ⟨(textI (x - y)).toArray⟩, .int .i64 0] ∧ Bs = As :=
  (sub_ok ht hx.len hy.len).mono fun u Bs ⟨h1, h2⟩ => ⟨by rw [h1]; unfold binW; rw [hx.read, hy.read]; simp only []; rw [hz.out], h2⟩
theorem mulN_ok (ht : Tab w0) {x y : Int} [hx : Dg x] [hy : Dg y] [hz : Dg (x * y)] : CallsS Tryz.prog w0 34 [.string ⟨(textI x).toArray⟩, .string ⟨(textI y).toArray⟩] As fun u Bs => u = .tuple #[.string ⟨(textI (x * y)).toArray⟩, .int .i64 0] ∧ Bs = As :=
  (mul_ok ht hx.len hy.len).mono fun u Bs ⟨h1, h2⟩ => ⟨by rw [h1]; unfold binW; rw [hx.read, hy.read]; simp only []; rw [hz.out], h2⟩
theorem gcdN_ok (ht : Tab w0) {x y : Int} [hx : Dg x] [hy : Dg y] [hz : Dg (gcdI x y)] : CallsS Tryz.prog w0 25 [.string ⟨(textI x).toArray⟩, .string ⟨(textI y).toArray⟩] As fun u Bs => u = .tuple #[.string ⟨(textI (gcdI x y)).toArray⟩, .int .i64 0] ∧ Bs = As :=
  (gcdT_ok ht hx.len hy.len).mono fun u Bs ⟨h1, h2⟩ => ⟨by rw [h1]; unfold binW; rw [hx.read, hy.read]; simp only []; rw [hz.out], h2⟩
theorem divN_ok (ht : Tab w0) {x y : Int} [hx : Dg x] [hy : Dg y] (h0 : y ≠ 0) : CallsS Tryz.prog w0 23 [.string ⟨(textI x).toArray⟩, .string ⟨(textI y).toArray⟩] As fun u Bs => u = .tuple #[.string ⟨(textI (x / y)).toArray⟩, .string ⟨(textI (x % y)).toArray⟩, .int .i64 0] ∧ Bs = As :=
  (div_ok ht hx.len hy.len).mono fun u Bs ⟨h1, h2⟩ => ⟨by rw [h1]; unfold divW; rw [hx.read, hy.read]; simp only []; rw [if_neg h0], h2⟩
theorem negN_ok (ht : Tab w0) {x : Int} [hx : Dg x] [hz : Dg (-x)] : CallsS Tryz.prog w0 37 [.string ⟨(textI x).toArray⟩] As fun u Bs => u = .tuple #[.string ⟨(textI (-x)).toArray⟩, .int .i64 0] ∧ Bs = As :=
  (neg_ok ht hx.len).mono fun u Bs ⟨h1, h2⟩ => ⟨by rw [h1]; unfold unW; rw [hx.read]; simp only []; rw [hz.out], h2⟩
theorem absN_ok (ht : Tab w0) {x : Int} [hx : Dg x] [hz : Dg (x.natAbs : Int)] : CallsS Tryz.prog w0 35 [.string ⟨(textI x).toArray⟩] As fun u Bs => u = .tuple #[.string ⟨(textI (x.natAbs : Int)).toArray⟩, .int .i64 0] ∧ Bs = As :=
  (abs_ok ht hx.len).mono fun u Bs ⟨h1, h2⟩ => ⟨by rw [h1]; unfold unW; rw [hx.read]; simp only []; rw [hz.out], h2⟩
theorem signN_ok {x : Int} [hx : Dg x] : CallsS Tryz.prog w0 17 [.string ⟨(textI x).toArray⟩] As fun u Bs => u = .tuple #[.int .i64 (signI x), .int .i64 0] ∧ Bs = As :=
  (signW_ok hx.len).mono fun u Bs ⟨h1, h2⟩ => ⟨by rw [h1]; unfold signW; rw [hx.read], h2⟩
theorem cmpN_ok {x y : Int} [hx : Dg x] [hy : Dg y] : CallsS Tryz.prog w0 19 [.string ⟨(textI x).toArray⟩, .string ⟨(textI y).toArray⟩] As fun u Bs => u = .tuple #[.int .i64 (signI (x - y)), .int .i64 0] ∧ Bs = As :=
  (cmp_ok hx.len hy.len).mono fun u Bs ⟨h1, h2⟩ => ⟨by rw [h1]; unfold cmpW; rw [hx.read, hy.read], h2⟩
theorem powN_ok (ht : Tab w0) {x : Int} {n : Nat} [hx : Dg x] [hz : Dg (x ^ n)] (hn : n ≤ 40) : CallsS Tryz.prog w0 27 [.string ⟨(textI x).toArray⟩, .int .i64 (n : Int)] As fun u Bs => u = .tuple #[.string ⟨(textI (x ^ n)).toArray⟩, .int .i64 0] ∧ Bs = As :=
  (pow_ok ht hx.len (by omega) (by omega)).mono fun u Bs ⟨h1, h2⟩ => ⟨by rw [h1]; unfold powW; rw [hx.read]; simp only []; rw [if_neg (by omega), Int.toNat_natCast, hz.out], h2⟩
theorem rootN_ok (ht : Tab w0) {x : Int} {k : Nat} [hx : Dg x] [hz : Dg (rootN x.natAbs k : Nat)] (h0 : 0 ≤ x) (h1 : 1 ≤ k) (hn : k ≤ 12) : CallsS Tryz.prog w0 29 [.string ⟨(textI x).toArray⟩, .int .i64 (k : Int)] As fun u Bs => u = .tuple #[.string ⟨(textI (rootN x.natAbs k : Nat)).toArray⟩, .int .i64 0] ∧ Bs = As :=
  (rootT_ok ht hx.len (by omega) (by omega)).mono fun u Bs ⟨h1, h2⟩ => ⟨by rw [h1]; unfold rootW; rw [hx.read]; simp only []; rw [if_neg (by omega), Int.toNat_natCast, hz.out], h2⟩
theorem short_okD (d : D01) [hr : RdIn As d.gv Nat (cN .u16) d.gs] (hd : d.ok) :
    CallsS Tryz.prog w0 31 [.agg d.cells.toArray] As fun u Bs => u = .string ⟨(textI d.short.num).toArray⟩ ∧ Bs = As := by
  have hd' : d.short.ok := ⟨hd.1, hd.2.1, by simp only [D01.short]; have := hd.2.2; omega⟩
  replace hr : RdIn As d.short.gv Nat (cN .u16) d.short.gs := hr
  have hz9 := hd.2.2
  have hz : ((d.zeros : Int) % 150) = ((d.short.zeros : Nat) : Int) := by simp only [D01.short]; omega
  refine CallsS.rdOne d.short.gv fun hgo => ?_
  replace hgo : d.gv.oneCell' = true := hgo
  refine CallsS.of_tri Tryz.func31 rfl Tryz.ntmps31 rfl ?_
  show Tri _ _ _ _ (env0 0 [.agg #[.bool d.below, d.gv, .int .u16 (d.zeros : Int)]]) _ _
  (repeat' (first | ((show TL _ _ _ _ (_ :: _) _ _ _; first | refine TL.fa ?_ | refine TL.ua ?_ | (refine TL.rba ?_; intro _) | (refine TL.rra ?_; first | rintro _ _ ⟨rfl, rfl⟩ | rintro _ _ rfl) | refine TL.offa ?_ | refine TL.off0a ?_ | refine TL.gu ?_ | fail)) | (first | refine Stp.h ?_ | refine Post.then_normal ?_ | refine Post.next ?_ | refine Post.block_other rfl ?_) | ((show Tri _ _ _ (.cond _ _ _) _ _ _; first | refine Tri.cTa ?_ | refine Tri.cFa ?_ | refine Tri.condTa ?_ | refine Tri.condFa ?_ | refine Tri.condNTa ?_ | refine Tri.condNFa ?_ | fail))))
  rw [hz]
  refine TL.callv rfl rfl rfl rfl (wholeR_ok d.short hd') ?_
  rintro _ _ ⟨rfl, rfl⟩
  (repeat' (first | ((show TL _ _ _ _ (_ :: _) _ _ _; first | refine TL.fa ?_ | refine TL.ua ?_ | (refine TL.rba ?_; intro _) | (refine TL.rra ?_; first | rintro _ _ ⟨rfl, rfl⟩ | rintro _ _ rfl) | refine TL.offa ?_ | refine TL.off0a ?_ | refine TL.gu ?_ | fail)) | (first | refine Stp.h ?_ | refine Post.then_normal ?_ | refine Post.next ?_ | refine Post.block_other rfl ?_) | ((show Tri _ _ _ (.cond _ _ _) _ _ _; first | refine Tri.cTa ?_ | refine Tri.cFa ?_ | refine Tri.condTa ?_ | refine Tri.condFa ?_ | refine Tri.condNTa ?_ | refine Tri.condNFa ?_ | fail))))
  ((try refine Post.ret_normal ?_); first | refine Post.r1a ?_ | refine Post.r2a ?_ | refine Post.r3a ?_ | refine Post.r0a ?_ | fail)
  exact ⟨_, ⟨rfl, rfl⟩, by (exact Ents.au)⟩
end Go.Proofs.YtfbhlfhecmhihaaGreatDoor
