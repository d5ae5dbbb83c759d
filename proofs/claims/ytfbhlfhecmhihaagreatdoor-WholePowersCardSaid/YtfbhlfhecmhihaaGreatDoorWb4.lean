/- Walks: divisors, powers, roots of magnitudes. -/
import Derived.Test.YtfbhlfhecmhihaaGreatDoorWb3
namespace Go.Sx
open Go
theorem mag_len_pw (x k : Nat) : (mag (x ^ k)).length ≤ (mag x).length * k + 1 := by
  refine mag_len_lt ?_
  have h1 : x ^ k ≤ (1000000000 ^ (mag x).length) ^ k := Nat.pow_le_pow_left (Nat.le_of_lt (mag_lt_pow x)) k
  rw [← Nat.pow_mul] at h1
  rw [Nat.pow_succ]
  have h2 : 0 < 1000000000 ^ ((mag x).length * k) := Nat.pow_pos (by omega)
  omega
theorem lt_pow_nDigits (n : Nat) : n < 10 ^ Lib.nDigits n := by
  have h := numOf_lt (l := Lib.decDigits n) (dec_dig n)
  rwa [numOf_dec, dec_len] at h
theorem nDigits_le_mag (n : Nat) : Lib.nDigits n ≤ 9 * (mag n).length + 1 := by
  by_cases h0 : n = 0
  · subst h0; rw [Lib.nDigits_small (by decide)]; omega
  · have h3 : (mag n).length ≠ 0 := fun h => h0 (mag_len0.1 h)
    obtain ⟨d, hd⟩ : ∃ d, (mag n)[(mag n).length - 1]? = some d := ⟨_, List.getElem?_eq_getElem (by omega)⟩
    obtain ⟨k1, k2, k3⟩ := mag_get hd
    have hl0 : n / 1000000000 ^ ((mag n).length - 1 + 1) = 0 := by
      rw [show (mag n).length - 1 + 1 = (mag n).length by omega]
      exact Nat.div_eq_of_lt (mag_lt_pow n)
    rw [nDigits_mag _ k2, k1, hl0, Nat.mul_zero, Nat.add_zero]
    have := nDigits_le (k := 8) (r := d) (by simpa using k3)
    omega
theorem mag_len_add (a b : Nat) : (mag (a + b)).length ≤ max (mag a).length (mag b).length + 1 := by
  refine mag_len_lt ?_
  have h1 := Nat.lt_of_lt_of_le (mag_lt_pow a) (Nat.pow_le_pow_right (n := 1000000000) (by omega) (Nat.le_max_left (mag a).length (mag b).length))
  have h2 := Nat.lt_of_lt_of_le (mag_lt_pow b) (Nat.pow_le_pow_right (n := 1000000000) (by omega) (Nat.le_max_right (mag a).length (mag b).length))
  rw [Nat.pow_succ]
  omega
theorem ten_mag (n : Nat) : (List.replicate (n / 9 + 1) 0).set (n / 9) (10 ^ (n % 9)) = mag (10 ^ n) := by
  have h0 : (List.replicate (n / 9 + 1) 0)[n / 9]? = some 0 := by simp
  have h1 := valB_set (g := 10 ^ (n % 9)) h0
  rw [valB_replicate, Nat.mul_zero, Nat.add_zero, Nat.zero_add] at h1
  have h2 : 1000000000 ^ (n / 9) * 10 ^ (n % 9) = 10 ^ n := by
    rw [show (1000000000 : Nat) = 10 ^ 9 from rfl, ← Nat.pow_mul, ← Nat.pow_add, Nat.div_add_mod]
  have h3 : 10 ^ (n % 9) ≤ 10 ^ 8 := Nat.pow_le_pow_right (by omega) (by omega)
  have h4 := mag_of (l := (List.replicate (n / 9 + 1) 0).set (n / 9) (10 ^ (n % 9))) (small_set (small_rep _) (by omega)) (.inr (by
    rw [h1, List.length_set, List.length_replicate, Nat.add_sub_cancel]
    exact Nat.le_mul_of_pos_right _ (Nat.pow_pos (by omega))))
  rw [h4, h1, h2]
end Go.Sx
namespace Go.Proofs.YtfbhlfhecmhihaaGreatDoor
open Go Go.Sx
variable {w0 : World} {As : List Ent}
theorem gcd_ok {v o : Value} {a b : Nat} [hf : FtIn As v Nat (cN .u32) (mag a)] [hg : FtIn As o Nat (cN .u32) (mag b)] (ha : (mag a).length ≤ 10000000) (hb : (mag b).length ≤ 10000000) : CallsS Tryz.prog w0 123 [v, o] As (MagR As (Nat.gcd a b)) := by
  refine magR_of ?_
  refine CallsS.of_tri Tryz.func123 rfl Tryz.ntmps123 rfl ?_
  (repeat' (first | ((show TL _ _ _ _ (_ :: _) _ _ _; first | refine TL.fa ?_ | refine TL.ua ?_ | (refine TL.rba ?_; intro _) | (refine TL.rra ?_; first | rintro _ _ ⟨rfl, rfl⟩ | rintro _ _ rfl) | refine TL.offa ?_ | refine TL.off0a ?_ | refine TL.gu ?_ | fail)) | (first | refine Stp.h ?_ | refine Post.then_normal ?_ | refine Post.next ?_ | refine Post.block_other rfl ?_) | ((show Tri _ _ _ (.cond _ _ _) _ _ _; first | refine Tri.cTa ?_ | refine Tri.cFa ?_ | refine Tri.condTa ?_ | refine Tri.condFa ?_ | refine Tri.condNTa ?_ | refine Tri.condNFa ?_ | fail))))
  refine Tri.loop (ι := Value × Value × Nat × Nat) (fun s => Nat.gcd s.2.2.1 s.2.2.2 = Nat.gcd a b ∧ (mag s.2.2.1).length ≤ 10000000 ∧ (mag s.2.2.2).length ≤ 10000000) (fun s => s.2.2.2)
    (fun s => [(0, s.1), (1, s.2.1)]) (fun s => .ft (rd (cN .u32) s.2.1 (mag s.2.2.2)) :: .ft (rd (cN .u32) s.1 (mag s.2.2.1)) :: As) (v, o, a, b) ⟨rfl, ha, hb⟩ (by (exact Sub.au)) (Ents.trans (Ents.dup (v := v)) (Ents.dup (v := o))) ?_
  rintro ⟨v, o, x, y⟩ ⟨hxy, hx, hy⟩
  simp only at hxy hx hy
  show Tri _ _ _ _ [(0, v), (1, o)] (.ft (rd (cN .u32) o (mag y)) :: .ft (rd (cN .u32) v (mag x)) :: As) _
  (repeat' (first | ((show TL _ _ _ _ (_ :: _) _ _ _; first | refine TL.fa ?_ | refine TL.ua ?_ | (refine TL.rba ?_; intro _) | (refine TL.rra ?_; first | rintro _ _ ⟨rfl, rfl⟩ | rintro _ _ rfl) | refine TL.offa ?_ | refine TL.off0a ?_ | refine TL.gu ?_ | fail)) | (first | refine Stp.h ?_ | refine Post.then_normal ?_ | refine Post.next ?_ | refine Post.block_other rfl ?_) | ((show Tri _ _ _ (.cond _ _ _) _ _ _; first | refine Tri.cTa ?_ | refine Tri.cFa ?_ | refine Tri.condTa ?_ | refine Tri.condFa ?_ | refine Tri.condNTa ?_ | refine Tri.condNFa ?_ | fail))))
  refine TL.call rfl rfl rfl (zero_ok (n := y)) ?_
  rintro _ _ ⟨rfl, rfl⟩
  by_cases hy0 : y = 0
  · subst hy0
    rw [Nat.gcd_zero_right] at hxy
    subst hxy
    (repeat' (first | ((show TL _ _ _ _ (_ :: _) _ _ _; first | refine TL.fa ?_ | refine TL.ua ?_ | (refine TL.rba ?_; intro _) | (refine TL.rra ?_; first | rintro _ _ ⟨rfl, rfl⟩ | rintro _ _ rfl) | refine TL.offa ?_ | refine TL.off0a ?_ | refine TL.gu ?_ | fail)) | (first | refine Stp.h ?_ | refine Post.then_normal ?_ | refine Post.next ?_ | refine Post.block_other rfl ?_) | ((show Tri _ _ _ (.cond _ _ _) _ _ _; first | refine Tri.cTa ?_ | refine Tri.cFa ?_ | refine Tri.condTa ?_ | refine Tri.condFa ?_ | refine Tri.condNTa ?_ | refine Tri.condNFa ?_ | fail))))
    ((try refine Post.ret_normal ?_); first | refine Post.r1a ?_ | refine Post.r2a ?_ | refine Post.r3a ?_ | refine Post.r0a ?_ | fail)
    exact ⟨_, rfl, by (exact Ents.au)⟩
  · by_cases hs : (mag x).length ≤ 2 ∧ (mag y).length ≤ 2
    · obtain ⟨hs1, hs2⟩ := hs
      have hx9 : x < 1000000000000000000 := by
        have h1 := mag_lt_pow x
        have h2 := Nat.pow_le_pow_right (n := 1000000000) (by omega) hs1
        omega
      have hy9 : y < 1000000000000000000 := by
        have h1 := mag_lt_pow y
        have h2 := Nat.pow_le_pow_right (n := 1000000000) (by omega) hs2
        omega
      (repeat' (first | ((show TL _ _ _ _ (_ :: _) _ _ _; first | refine TL.fa ?_ | refine TL.ua ?_ | (refine TL.rba ?_; intro _) | (refine TL.rra ?_; first | rintro _ _ ⟨rfl, rfl⟩ | rintro _ _ rfl) | refine TL.offa ?_ | refine TL.off0a ?_ | refine TL.gu ?_ | fail)) | (first | refine Stp.h ?_ | refine Post.then_normal ?_ | refine Post.next ?_ | refine Post.block_other rfl ?_) | ((show Tri _ _ _ (.cond _ _ _) _ _ _; first | refine Tri.cTa ?_ | refine Tri.cFa ?_ | refine Tri.condTa ?_ | refine Tri.condFa ?_ | refine Tri.condNTa ?_ | refine Tri.condNFa ?_ | fail))))
      refine TL.call rfl rfl rfl (small_ok (a := x) hs1) ?_
      rintro _ _ ⟨rfl, rfl⟩
      (repeat' (first | ((show TL _ _ _ _ (_ :: _) _ _ _; first | refine TL.fa ?_ | refine TL.ua ?_ | (refine TL.rba ?_; intro _) | (refine TL.rra ?_; first | rintro _ _ ⟨rfl, rfl⟩ | rintro _ _ rfl) | refine TL.offa ?_ | refine TL.off0a ?_ | refine TL.gu ?_ | fail)) | (first | refine Stp.h ?_ | refine Post.then_normal ?_ | refine Post.next ?_ | refine Post.block_other rfl ?_) | ((show Tri _ _ _ (.cond _ _ _) _ _ _; first | refine Tri.cTa ?_ | refine Tri.cFa ?_ | refine Tri.condTa ?_ | refine Tri.condFa ?_ | refine Tri.condNTa ?_ | refine Tri.condNFa ?_ | fail))))
      refine TL.call rfl rfl rfl (small_ok (a := y) hs2) ?_
      rintro _ _ ⟨rfl, rfl⟩
      (repeat' (first | ((show TL _ _ _ _ (_ :: _) _ _ _; first | refine TL.fa ?_ | refine TL.ua ?_ | (refine TL.rba ?_; intro _) | (refine TL.rra ?_; first | rintro _ _ ⟨rfl, rfl⟩ | rintro _ _ rfl) | refine TL.offa ?_ | refine TL.off0a ?_ | refine TL.gu ?_ | fail)) | (first | refine Stp.h ?_ | refine Post.then_normal ?_ | refine Post.next ?_ | refine Post.block_other rfl ?_) | ((show Tri _ _ _ (.cond _ _ _) _ _ _; first | refine Tri.cTa ?_ | refine Tri.cFa ?_ | refine Tri.condTa ?_ | refine Tri.condFa ?_ | refine Tri.condNTa ?_ | refine Tri.condNFa ?_ | fail))))
      refine Tri.loop (ι := Nat × Nat) (fun s => Nat.gcd s.1 s.2 = Nat.gcd a b ∧ s.1 < 1000000000000000000 ∧ s.2 < 1000000000000000000) (fun s => s.2)
        (fun s => [(5, .int .u64 (s.1 : Int)), (6, .int .u64 (s.2 : Int))]) (fun _ => As) (x, y) ⟨hxy, hx9, hy9⟩ (by (exact Sub.au)) (by (exact Ents.au)) ?_
      rintro ⟨c, d⟩ ⟨hcd, hc9, hd9⟩
      simp only at hcd hc9 hd9
      show Tri _ _ _ _ [(5, .int .u64 (c : Int)), (6, .int .u64 (d : Int))] As _
      (repeat' (first | ((show TL _ _ _ _ (_ :: _) _ _ _; first | refine TL.fa ?_ | refine TL.ua ?_ | (refine TL.rba ?_; intro _) | (refine TL.rra ?_; first | rintro _ _ ⟨rfl, rfl⟩ | rintro _ _ rfl) | refine TL.offa ?_ | refine TL.off0a ?_ | refine TL.gu ?_ | fail)) | (first | refine Stp.h ?_ | refine Post.then_normal ?_ | refine Post.next ?_ | refine Post.block_other rfl ?_) | ((show Tri _ _ _ (.cond _ _ _) _ _ _; first | refine Tri.cTa ?_ | refine Tri.cFa ?_ | refine Tri.condTa ?_ | refine Tri.condFa ?_ | refine Tri.condNTa ?_ | refine Tri.condNFa ?_ | fail))))
      ((show Tri _ _ _ (.cond _ _ _) _ _ _; first | refine Tri.condP rfl (fun hc => ?_) (fun hc => ?_) | refine Tri.condN rfl (fun hc => ?_) (fun hc => ?_)))
      · have hre : ((c : Int) % (d : Int)) = ((c % d : Nat) : Int) := (Int.natCast_emod _ _).symm
        have hlt : c % d < d := Nat.mod_lt _ (by omega)
        (repeat' (first | ((show TL _ _ _ _ (_ :: _) _ _ _; first | refine TL.fa ?_ | refine TL.ua ?_ | (refine TL.rba ?_; intro _) | (refine TL.rra ?_; first | rintro _ _ ⟨rfl, rfl⟩ | rintro _ _ rfl) | refine TL.offa ?_ | refine TL.off0a ?_ | refine TL.gu ?_ | fail)) | (first | refine Stp.h ?_ | refine Post.then_normal ?_ | refine Post.next ?_ | refine Post.block_other rfl ?_) | ((show Tri _ _ _ (.cond _ _ _) _ _ _; first | refine Tri.cTa ?_ | refine Tri.cFa ?_ | refine Tri.condTa ?_ | refine Tri.condFa ?_ | refine Tri.condNTa ?_ | refine Tri.condNFa ?_ | fail))))
        refine Tri.dr (.take 0 (.take 1 (.take 2 (.take 3 (.take 4 (.take 5 (.done))))))) ?_
        (repeat' (first | ((show TL _ _ _ _ (_ :: _) _ _ _; first | refine TL.fa ?_ | refine TL.ua ?_ | (refine TL.rba ?_; intro _) | (refine TL.rra ?_; first | rintro _ _ ⟨rfl, rfl⟩ | rintro _ _ rfl) | refine TL.offa ?_ | refine TL.off0a ?_ | refine TL.gu ?_ | fail)) | (first | refine Stp.h ?_ | refine Post.then_normal ?_ | refine Post.next ?_ | refine Post.block_other rfl ?_) | (first | (show TT _ _ _ _ _ _ _ _ _; first | refine TT.takea ?_ | refine TT.takeMa ?_ | refine TT.takeOffa ?_ | refine TT.gu ?_ | fail) | exact TTs.nil | refine TTs.cons ?_ ?_ | (show T1 _ _ _ _ _ _ _ _ _ _; first | refine T1.ua ?_ | (refine T1.rba ?_; intro _) | (refine T1.rra ?_; first | rintro _ _ ⟨rfl, rfl⟩ | rintro _ _ rfl) | refine T1.fa ?_ | refine T1.offa ?_ | refine T1.off0a ?_ | fail) | (show TC _ _ _ _ _ _ _ _ _ _; first | refine TC.goa ?_ | refine TC.fina ?_ | fail)) | ((show Tri _ _ _ (.cond _ _ _) _ _ _; first | refine Tri.cTa ?_ | refine Tri.cFa ?_ | refine Tri.condTa ?_ | refine Tri.condFa ?_ | refine Tri.condNTa ?_ | refine Tri.condNFa ?_ | fail))))
        rw [hre]
        exact Post.round (d, c % d) ⟨by simp only; rw [← hcd, Nat.gcd_comm, Nat.gcd_comm c d]; exact (Nat.gcd_rec d c).symm, hd9, by simp only; omega⟩ (by simp only; exact hlt) (by (exact Sub.au)) (by (exact Ents.au))
      · have hd0 : d = 0 := by omega
        subst hd0
        rw [Nat.gcd_zero_right] at hcd
        (repeat' (first | ((show TL _ _ _ _ (_ :: _) _ _ _; first | refine TL.fa ?_ | refine TL.ua ?_ | (refine TL.rba ?_; intro _) | (refine TL.rra ?_; first | rintro _ _ ⟨rfl, rfl⟩ | rintro _ _ rfl) | refine TL.offa ?_ | refine TL.off0a ?_ | refine TL.gu ?_ | fail)) | (first | refine Stp.h ?_ | refine Post.then_normal ?_ | refine Post.next ?_ | refine Post.block_other rfl ?_) | (first | (show TT _ _ _ _ _ _ _ _ _; first | refine TT.takea ?_ | refine TT.takeMa ?_ | refine TT.takeOffa ?_ | refine TT.gu ?_ | fail) | exact TTs.nil | refine TTs.cons ?_ ?_ | (show T1 _ _ _ _ _ _ _ _ _ _; first | refine T1.ua ?_ | (refine T1.rba ?_; intro _) | (refine T1.rra ?_; first | rintro _ _ ⟨rfl, rfl⟩ | rintro _ _ rfl) | refine T1.fa ?_ | refine T1.offa ?_ | refine T1.off0a ?_ | fail) | (show TC _ _ _ _ _ _ _ _ _ _; first | refine TC.goa ?_ | refine TC.fina ?_ | fail)) | ((show Tri _ _ _ (.cond _ _ _) _ _ _; first | refine Tri.cTa ?_ | refine Tri.cFa ?_ | refine Tri.condTa ?_ | refine Tri.condFa ?_ | refine Tri.condNTa ?_ | refine Tri.condNFa ?_ | fail))))
        refine TL.call rfl rfl rfl (fromSmall_ok (n := c) (by omega)) ?_
        rintro _ _ ⟨p, cap, rfl, rfl⟩
        rw [← hcd]
        (repeat' (first | ((show TL _ _ _ _ (_ :: _) _ _ _; first | refine TL.fa ?_ | refine TL.ua ?_ | (refine TL.rba ?_; intro _) | (refine TL.rra ?_; first | rintro _ _ ⟨rfl, rfl⟩ | rintro _ _ rfl) | refine TL.offa ?_ | refine TL.off0a ?_ | refine TL.gu ?_ | fail)) | (first | refine Stp.h ?_ | refine Post.then_normal ?_ | refine Post.next ?_ | refine Post.block_other rfl ?_) | (first | (show TT _ _ _ _ _ _ _ _ _; first | refine TT.takea ?_ | refine TT.takeMa ?_ | refine TT.takeOffa ?_ | refine TT.gu ?_ | fail) | exact TTs.nil | refine TTs.cons ?_ ?_ | (show T1 _ _ _ _ _ _ _ _ _ _; first | refine T1.ua ?_ | (refine T1.rba ?_; intro _) | (refine T1.rra ?_; first | rintro _ _ ⟨rfl, rfl⟩ | rintro _ _ rfl) | refine T1.fa ?_ | refine T1.offa ?_ | refine T1.off0a ?_ | fail) | (show TC _ _ _ _ _ _ _ _ _ _; first | refine TC.goa ?_ | refine TC.fina ?_ | fail)) | ((show Tri _ _ _ (.cond _ _ _) _ _ _; first | refine Tri.cTa ?_ | refine Tri.cFa ?_ | refine Tri.condTa ?_ | refine Tri.condFa ?_ | refine Tri.condNTa ?_ | refine Tri.condNFa ?_ | fail))))
        ((try refine Post.ret_normal ?_); first | refine Post.r1a ?_ | refine Post.r2a ?_ | refine Post.r3a ?_ | refine Post.r0a ?_ | fail)
        exact ⟨_, rfl, by (exact Ents.au)⟩
    · have hlt : x % y < y := Nat.mod_lt _ (by omega)
      have hl9 := mag_len_le (Nat.le_of_lt hlt)
      have hgc : Nat.gcd y (x % y) = Nat.gcd a b := by rw [← hxy, Nat.gcd_comm x y, Nat.gcd_rec y x, Nat.gcd_comm]
      by_cases hs1 : (mag x).length ≤ 2
      all_goals
        (repeat' (first | ((show TL _ _ _ _ (_ :: _) _ _ _; first | refine TL.fa ?_ | refine TL.ua ?_ | (refine TL.rba ?_; intro _) | (refine TL.rra ?_; first | rintro _ _ ⟨rfl, rfl⟩ | rintro _ _ rfl) | refine TL.offa ?_ | refine TL.off0a ?_ | refine TL.gu ?_ | fail)) | (first | refine Stp.h ?_ | refine Post.then_normal ?_ | refine Post.next ?_ | refine Post.block_other rfl ?_) | (first | (show TT _ _ _ _ _ _ _ _ _; first | refine TT.takea ?_ | refine TT.takeMa ?_ | refine TT.takeOffa ?_ | refine TT.gu ?_ | fail) | exact TTs.nil | refine TTs.cons ?_ ?_ | (show T1 _ _ _ _ _ _ _ _ _ _; first | refine T1.ua ?_ | (refine T1.rba ?_; intro _) | (refine T1.rra ?_; first | rintro _ _ ⟨rfl, rfl⟩ | rintro _ _ rfl) | refine T1.fa ?_ | refine T1.offa ?_ | refine T1.off0a ?_ | fail) | (show TC _ _ _ _ _ _ _ _ _ _; first | refine TC.goa ?_ | refine TC.fina ?_ | fail)) | ((show Tri _ _ _ (.cond _ _ _) _ _ _; first | refine Tri.cTa ?_ | refine Tri.cFa ?_ | refine Tri.condTa ?_ | refine Tri.condFa ?_ | refine Tri.condNTa ?_ | refine Tri.condNFa ?_ | fail))))
        refine TL.call rfl rfl rfl (divide_ok (a := x) (b := y) hy0 (by omega) (by omega)) ?_
        rintro _ _ ⟨p, cap, p', cap', rfl, rfl⟩
        (repeat' (first | ((show TL _ _ _ _ (_ :: _) _ _ _; first | refine TL.fa ?_ | refine TL.ua ?_ | (refine TL.rba ?_; intro _) | (refine TL.rra ?_; first | rintro _ _ ⟨rfl, rfl⟩ | rintro _ _ rfl) | refine TL.offa ?_ | refine TL.off0a ?_ | refine TL.gu ?_ | fail)) | (first | refine Stp.h ?_ | refine Post.then_normal ?_ | refine Post.next ?_ | refine Post.block_other rfl ?_) | (first | (show TT _ _ _ _ _ _ _ _ _; first | refine TT.takea ?_ | refine TT.takeMa ?_ | refine TT.takeOffa ?_ | refine TT.gu ?_ | fail) | exact TTs.nil | refine TTs.cons ?_ ?_ | (show T1 _ _ _ _ _ _ _ _ _ _; first | refine T1.ua ?_ | (refine T1.rba ?_; intro _) | (refine T1.rra ?_; first | rintro _ _ ⟨rfl, rfl⟩ | rintro _ _ rfl) | refine T1.fa ?_ | refine T1.offa ?_ | refine T1.off0a ?_ | fail) | (show TC _ _ _ _ _ _ _ _ _ _; first | refine TC.goa ?_ | refine TC.fina ?_ | fail)) | ((show Tri _ _ _ (.cond _ _ _) _ _ _; first | refine Tri.cTa ?_ | refine Tri.cFa ?_ | refine Tri.condTa ?_ | refine Tri.condFa ?_ | refine Tri.condNTa ?_ | refine Tri.condNFa ?_ | fail))))
        exact Post.round (o, .slice p' (mag (x % y)).length cap', y, x % y) ⟨hgc, by simp only; omega, by simp only; omega⟩ (by simp only; exact hlt) (by (exact Sub.au)) (by (exact Ents.au))
theorem tenfold_ok {n : Nat} (hn : n ≤ 1000000) : CallsS Tryz.prog w0 102 [.int .i64 (n : Int)] As (MagR As (10 ^ n)) := by
  refine magR_of ?_
  refine CallsS.of_tri Tryz.func102 rfl Tryz.ntmps102 rfl ?_
  have e1 : ((n : Int) / 9 + 1) = ((n / 9 + 1 : Nat) : Int) := by omega
  (repeat' (first | ((show TL _ _ _ _ (_ :: _) _ _ _; first | refine TL.fa ?_ | refine TL.ua ?_ | (refine TL.rba ?_; intro _) | (refine TL.rra ?_; first | rintro _ _ ⟨rfl, rfl⟩ | rintro _ _ rfl) | refine TL.offa ?_ | refine TL.off0a ?_ | refine TL.gu ?_ | fail)) | (first | refine Stp.h ?_ | refine Post.then_normal ?_ | refine Post.next ?_ | refine Post.block_other rfl ?_) | (first | (show TT _ _ _ _ _ _ _ _ _; first | refine TT.takea ?_ | refine TT.takeMa ?_ | refine TT.takeOffa ?_ | refine TT.gu ?_ | fail) | exact TTs.nil | refine TTs.cons ?_ ?_ | (show T1 _ _ _ _ _ _ _ _ _ _; first | refine T1.ua ?_ | (refine T1.rba ?_; intro _) | (refine T1.rra ?_; first | rintro _ _ ⟨rfl, rfl⟩ | rintro _ _ rfl) | refine T1.fa ?_ | refine T1.offa ?_ | refine T1.off0a ?_ | fail) | (show TC _ _ _ _ _ _ _ _ _ _; first | refine TC.goa ?_ | refine TC.fina ?_ | fail)) | ((show Tri _ _ _ (.cond _ _ _) _ _ _; first | refine Tri.cTa ?_ | refine Tri.cFa ?_ | refine Tri.condTa ?_ | refine Tri.condFa ?_ | refine Tri.condNTa ?_ | refine Tri.condNFa ?_ | fail))))
  rw [e1]
  (repeat' (first | ((show TL _ _ _ _ (_ :: _) _ _ _; first | refine TL.fa ?_ | refine TL.ua ?_ | (refine TL.rba ?_; intro _) | (refine TL.rra ?_; first | rintro _ _ ⟨rfl, rfl⟩ | rintro _ _ rfl) | refine TL.offa ?_ | refine TL.off0a ?_ | refine TL.gu ?_ | fail)) | (first | refine Stp.h ?_ | refine Post.then_normal ?_ | refine Post.next ?_ | refine Post.block_other rfl ?_) | (first | (show TT _ _ _ _ _ _ _ _ _; first | refine TT.takea ?_ | refine TT.takeMa ?_ | refine TT.takeOffa ?_ | refine TT.gu ?_ | fail) | exact TTs.nil | refine TTs.cons ?_ ?_ | (show T1 _ _ _ _ _ _ _ _ _ _; first | refine T1.ua ?_ | (refine T1.rba ?_; intro _) | (refine T1.rra ?_; first | rintro _ _ ⟨rfl, rfl⟩ | rintro _ _ rfl) | refine T1.fa ?_ | refine T1.offa ?_ | refine T1.off0a ?_ | fail) | (show TC _ _ _ _ _ _ _ _ _ _; first | refine TC.goa ?_ | refine TC.fina ?_ | fail)) | ((show Tri _ _ _ (.cond _ _ _) _ _ _; first | refine Tri.cTa ?_ | refine Tri.cFa ?_ | refine Tri.condTa ?_ | refine Tri.condFa ?_ | refine Tri.condNTa ?_ | refine Tri.condNFa ?_ | fail))))
  rename_i sv
  refine Tri.loop (ι := Nat) (fun k => k ≤ n % 9) (fun k => n % 9 - k)
    (fun k => [(0, .int .i64 (n : Int)), (3, sv), (4, .int .u32 ((10 ^ k : Nat) : Int)), (10, .int .i64 ((n : Int) % 9)), (11, .int .i64 (k : Int))]) (fun _ => .ow (cN .u32) 91 sv (List.replicate (n / 9 + 1) 0) :: As) 0 (by omega) (by (exact Sub.au)) (by (exact Ents.au)) ?_
  intro k hk
  have hp : 10 ^ k ≤ 100000000 := Nat.le_trans (Nat.pow_le_pow_right (by omega) (show k ≤ 8 by omega)) (by decide)
  have hpk : 10 ^ (k + 1) = 10 ^ k * 10 := Nat.pow_succ ..
  have hkn9 : k = n % 9 → (10 : Nat) ^ (n % 9) = 10 ^ k := fun h => by rw [h]
  show Tri _ _ _ _ [(0, .int .i64 (n : Int)), (3, sv), (4, .int .u32 ((10 ^ k : Nat) : Int)), (10, .int .i64 ((n : Int) % 9)), (11, .int .i64 (k : Int))] (.ow (cN .u32) 91 sv (List.replicate (n / 9 + 1) 0) :: As) _
  generalize (10 : Nat) ^ k = T at hp hpk hkn9 ⊢
  have hrl : (List.replicate (n / 9 + 1) 0).length = n / 9 + 1 := List.length_replicate
  (repeat' (first | ((show TL _ _ _ _ (_ :: _) _ _ _; first | refine TL.fa ?_ | refine TL.ua ?_ | (refine TL.rba ?_; intro _) | (refine TL.rra ?_; first | rintro _ _ ⟨rfl, rfl⟩ | rintro _ _ rfl) | refine TL.offa ?_ | refine TL.off0a ?_ | refine TL.gu ?_ | fail)) | (first | refine Stp.h ?_ | refine Post.then_normal ?_ | refine Post.next ?_ | refine Post.block_other rfl ?_) | ((show Tri _ _ _ (.cond _ _ _) _ _ _; first | refine Tri.cTa ?_ | refine Tri.cFa ?_ | refine Tri.condTa ?_ | refine Tri.condFa ?_ | refine Tri.condNTa ?_ | refine Tri.condNFa ?_ | fail))))
  ((show Tri _ _ _ (.cond _ _ _) _ _ _; first | refine Tri.condP rfl (fun hc => ?_) (fun hc => ?_) | refine Tri.condN rfl (fun hc => ?_) (fun hc => ?_)))
  · (repeat' (first | ((show TL _ _ _ _ (_ :: _) _ _ _; first | refine TL.fa ?_ | refine TL.ua ?_ | (refine TL.rba ?_; intro _) | (refine TL.rra ?_; first | rintro _ _ ⟨rfl, rfl⟩ | rintro _ _ rfl) | refine TL.offa ?_ | refine TL.off0a ?_ | refine TL.gu ?_ | fail)) | (first | refine Stp.h ?_ | refine Post.then_normal ?_ | refine Post.next ?_ | refine Post.block_other rfl ?_) | ((show Tri _ _ _ (.cond _ _ _) _ _ _; first | refine Tri.cTa ?_ | refine Tri.cFa ?_ | refine Tri.condTa ?_ | refine Tri.condFa ?_ | refine Tri.condNTa ?_ | refine Tri.condNFa ?_ | fail))))
    refine Post.round (k + 1) (by omega) (by omega) ?_ (by (exact Ents.au))
    rw [show ((10 ^ (k + 1) : Nat) : Int) = (T : Int) * 10 by rw [hpk, Int.natCast_mul]; rfl]
    (exact Sub.au)
  · have hkn : k = n % 9 := by omega
    rw [← hkn9 hkn] at *
    have e2 : ((n : Int) / 9) = ((n / 9 : Nat) : Int) := by omega
    (repeat' (first | ((show TL _ _ _ _ (_ :: _) _ _ _; first | refine TL.fa ?_ | refine TL.ua ?_ | (refine TL.rba ?_; intro _) | (refine TL.rra ?_; first | rintro _ _ ⟨rfl, rfl⟩ | rintro _ _ rfl) | refine TL.offa ?_ | refine TL.off0a ?_ | refine TL.gu ?_ | fail)) | (first | refine Stp.h ?_ | refine Post.then_normal ?_ | refine Post.next ?_ | refine Post.block_other rfl ?_) | ((show Tri _ _ _ (.cond _ _ _) _ _ _; first | refine Tri.cTa ?_ | refine Tri.cFa ?_ | refine Tri.condTa ?_ | refine Tri.condFa ?_ | refine Tri.condNTa ?_ | refine Tri.condNFa ?_ | fail))))
    rw [e2]
    (repeat' (first | ((show TL _ _ _ _ (_ :: _) _ _ _; first | refine TL.fa ?_ | refine TL.ua ?_ | (refine TL.rba ?_; intro _) | (refine TL.rra ?_; first | rintro _ _ ⟨rfl, rfl⟩ | rintro _ _ rfl) | refine TL.offa ?_ | refine TL.off0a ?_ | refine TL.gu ?_ | fail)) | (first | refine Stp.h ?_ | refine Post.then_normal ?_ | refine Post.next ?_ | refine Post.block_other rfl ?_) | ((show Tri _ _ _ (.cond _ _ _) _ _ _; first | refine Tri.cTa ?_ | refine Tri.cFa ?_ | refine Tri.condTa ?_ | refine Tri.condFa ?_ | refine Tri.condNTa ?_ | refine Tri.condNFa ?_ | fail))))
    ((try refine Post.ret_normal ?_); first | refine Post.r1a ?_ | refine Post.r2a ?_ | refine Post.r3a ?_ | refine Post.r0a ?_ | fail)
    exact ⟨_, rfl, by rw [← ten_mag]; exact Ents.trans Ents.freeze (by (exact Ents.au))⟩
theorem power_ok {v : Value} {x n : Nat} [hf : FtIn As v Nat (cN .u32) (mag x)] (hL : (mag x).length * n ≤ 90000000) (hx : (mag x).length ≤ 10000000) (hn : n ≤ 1000000) : CallsS Tryz.prog w0 69 [v, .int .i64 (n : Int)] As (MagR As (x ^ n)) := by
  refine magR_of ?_
  refine CallsS.of_tri Tryz.func69 rfl Tryz.ntmps69 rfl ?_
  have hm1 : mag 1 = [1] := mag_single (by omega) (by omega)
  (repeat' (first | ((show TL _ _ _ _ (_ :: _) _ _ _; first | refine TL.fa ?_ | refine TL.ua ?_ | (refine TL.rba ?_; intro _) | (refine TL.rra ?_; first | rintro _ _ ⟨rfl, rfl⟩ | rintro _ _ rfl) | refine TL.offa ?_ | refine TL.off0a ?_ | refine TL.gu ?_ | fail)) | (first | refine Stp.h ?_ | refine Post.then_normal ?_ | refine Post.next ?_ | refine Post.block_other rfl ?_) | ((show Tri _ _ _ (.cond _ _ _) _ _ _; first | refine Tri.cTa ?_ | refine Tri.cFa ?_ | refine Tri.condTa ?_ | refine Tri.condFa ?_ | refine Tri.condNTa ?_ | refine Tri.condNFa ?_ | fail))))
  rename_i b7
  refine Tri.loop (ι := Nat × Value) (fun s => s.1 ≤ n) (fun s => n - s.1)
    (fun s => [(5, s.2), (6, .func (.func 94) #[v] #[]), (10, .int .i64 (n : Int)), (11, .int .i64 (s.1 : Int))]) (fun s => .ft (rd (cN .u32) s.2 (mag (x ^ s.1))) :: As) (0, .slice (some ⟨b7, 0, none⟩) 1 1) (by omega) (by (exact Sub.au))
    (Ents.trans (Ents.clW (cN .u32) (mag (x ^ 0)) (by rw [Nat.pow_zero, hm1]; rfl) (by rw [Nat.pow_zero, hm1]; rfl) (by rw [Nat.pow_zero, hm1]; rfl)) Ents.freeze) ?_
  rintro ⟨k, pv⟩ hk
  simp only at hk
  show Tri _ _ _ _ [(5, pv), (6, .func (.func 94) #[v] #[]), (10, .int .i64 (n : Int)), (11, .int .i64 (k : Int))] (.ft (rd (cN .u32) pv (mag (x ^ k))) :: As) _
  (repeat' (first | ((show TL _ _ _ _ (_ :: _) _ _ _; first | refine TL.fa ?_ | refine TL.ua ?_ | (refine TL.rba ?_; intro _) | (refine TL.rra ?_; first | rintro _ _ ⟨rfl, rfl⟩ | rintro _ _ rfl) | refine TL.offa ?_ | refine TL.off0a ?_ | refine TL.gu ?_ | fail)) | (first | refine Stp.h ?_ | refine Post.then_normal ?_ | refine Post.next ?_ | refine Post.block_other rfl ?_) | ((show Tri _ _ _ (.cond _ _ _) _ _ _; first | refine Tri.cTa ?_ | refine Tri.cFa ?_ | refine Tri.condTa ?_ | refine Tri.condFa ?_ | refine Tri.condNTa ?_ | refine Tri.condNFa ?_ | fail))))
  ((show Tri _ _ _ (.cond _ _ _) _ _ _; first | refine Tri.condP rfl (fun hc => ?_) (fun hc => ?_) | refine Tri.condN rfl (fun hc => ?_) (fun hc => ?_)))
  · have h1 := mag_len_pw x k
    have h2 := Nat.mul_le_mul_left (mag x).length hk
    (repeat' (first | ((show TL _ _ _ _ (_ :: _) _ _ _; first | refine TL.fa ?_ | refine TL.ua ?_ | (refine TL.rba ?_; intro _) | (refine TL.rra ?_; first | rintro _ _ ⟨rfl, rfl⟩ | rintro _ _ rfl) | refine TL.offa ?_ | refine TL.off0a ?_ | refine TL.gu ?_ | fail)) | (first | refine Stp.h ?_ | refine Post.then_normal ?_ | refine Post.next ?_ | refine Post.block_other rfl ?_) | ((show Tri _ _ _ (.cond _ _ _) _ _ _; first | refine Tri.cTa ?_ | refine Tri.cFa ?_ | refine Tri.condTa ?_ | refine Tri.condFa ?_ | refine Tri.condNTa ?_ | refine Tri.condNFa ?_ | fail))))
    refine TL.callv rfl rfl rfl rfl (times_ok (a := x) (b := x ^ k) (by omega) (by omega)) ?_
    rintro _ _ ⟨p, cap, rfl, rfl⟩
    rw [Nat.mul_comm, ← Nat.pow_succ]
    (repeat' (first | ((show TL _ _ _ _ (_ :: _) _ _ _; first | refine TL.fa ?_ | refine TL.ua ?_ | (refine TL.rba ?_; intro _) | (refine TL.rra ?_; first | rintro _ _ ⟨rfl, rfl⟩ | rintro _ _ rfl) | refine TL.offa ?_ | refine TL.off0a ?_ | refine TL.gu ?_ | fail)) | (first | refine Stp.h ?_ | refine Post.then_normal ?_ | refine Post.next ?_ | refine Post.block_other rfl ?_) | ((show Tri _ _ _ (.cond _ _ _) _ _ _; first | refine Tri.cTa ?_ | refine Tri.cFa ?_ | refine Tri.condTa ?_ | refine Tri.condFa ?_ | refine Tri.condNTa ?_ | refine Tri.condNFa ?_ | fail))))
    exact Post.round (k + 1, .slice p (mag (x ^ (k + 1))).length cap) (by simp only; omega) (by simp only; omega) (by (exact Sub.au)) (by (exact Ents.au))
  · have hkn : k = n := by omega
    subst hkn
    (repeat' (first | ((show TL _ _ _ _ (_ :: _) _ _ _; first | refine TL.fa ?_ | refine TL.ua ?_ | (refine TL.rba ?_; intro _) | (refine TL.rra ?_; first | rintro _ _ ⟨rfl, rfl⟩ | rintro _ _ rfl) | refine TL.offa ?_ | refine TL.off0a ?_ | refine TL.gu ?_ | fail)) | (first | refine Stp.h ?_ | refine Post.then_normal ?_ | refine Post.next ?_ | refine Post.block_other rfl ?_) | ((show Tri _ _ _ (.cond _ _ _) _ _ _; first | refine Tri.cTa ?_ | refine Tri.cFa ?_ | refine Tri.condTa ?_ | refine Tri.condFa ?_ | refine Tri.condNTa ?_ | refine Tri.condNFa ?_ | fail))))
    ((try refine Post.ret_normal ?_); first | refine Post.r1a ?_ | refine Post.r2a ?_ | refine Post.r3a ?_ | refine Post.r0a ?_ | fail)
    exact ⟨_, rfl, by (exact Ents.au)⟩
theorem root_ok (ht : Tab w0) {v : Value} {x k : Nat} [hf : FtIn As v Nat (cN .u32) (mag x)] (hx : (mag x).length ≤ 10000) (hk1 : 1 ≤ k) (hk : k ≤ 100) : CallsS Tryz.prog w0 71 [v, .int .i64 (k : Int)] As (MagR As (rootN x k)) := by
  refine magR_of ?_
  refine CallsS.of_tri Tryz.func71 rfl Tryz.ntmps71 rfl ?_
  (repeat' (first | ((show TL _ _ _ _ (_ :: _) _ _ _; first | refine TL.fa ?_ | refine TL.ua ?_ | (refine TL.rba ?_; intro _) | (refine TL.rra ?_; first | rintro _ _ ⟨rfl, rfl⟩ | rintro _ _ rfl) | refine TL.offa ?_ | refine TL.off0a ?_ | refine TL.gu ?_ | fail)) | (first | refine Stp.h ?_ | refine Post.then_normal ?_ | refine Post.next ?_ | refine Post.block_other rfl ?_) | ((show Tri _ _ _ (.cond _ _ _) _ _ _; first | refine Tri.cTa ?_ | refine Tri.cFa ?_ | refine Tri.condTa ?_ | refine Tri.condFa ?_ | refine Tri.condNTa ?_ | refine Tri.condNFa ?_ | fail))))
  refine TL.call rfl rfl rfl (zero_ok (n := x)) ?_
  rintro _ As ⟨rfl, rfl⟩
  by_cases hx0 : x = 0
  · subst hx0
    rw [rootN_eq (r := 0) (by omega) (by rw [Nat.zero_pow (by omega)]; omega) (by rw [Nat.zero_add, Nat.one_pow]; omega), mag_zero]
    (repeat' (first | ((show TL _ _ _ _ (_ :: _) _ _ _; first | refine TL.fa ?_ | refine TL.ua ?_ | (refine TL.rba ?_; intro _) | (refine TL.rra ?_; first | rintro _ _ ⟨rfl, rfl⟩ | rintro _ _ rfl) | refine TL.offa ?_ | refine TL.off0a ?_ | refine TL.gu ?_ | fail)) | (first | refine Stp.h ?_ | refine Post.then_normal ?_ | refine Post.next ?_ | refine Post.block_other rfl ?_) | ((show Tri _ _ _ (.cond _ _ _) _ _ _; first | refine Tri.cTa ?_ | refine Tri.cFa ?_ | refine Tri.condTa ?_ | refine Tri.condFa ?_ | refine Tri.condNTa ?_ | refine Tri.condNFa ?_ | fail))))
    ((try refine Post.ret_normal ?_); first | refine Post.r1a ?_ | refine Post.r2a ?_ | refine Post.r3a ?_ | refine Post.r0a ?_ | fail)
    exact ⟨_, rfl, Ents.trans (Ents.nilW (T := 91) (cN .u32)) Ents.freeze⟩
  have hnd := nDigits_le_mag x
  have hlt := lt_pow_nDigits x
  have hr1 : 1 ≤ rootN x k := rootN_max (by omega) (by rw [Nat.one_pow]; omega)
  (repeat' (first | ((show TL _ _ _ _ (_ :: _) _ _ _; first | refine TL.fa ?_ | refine TL.ua ?_ | (refine TL.rba ?_; intro _) | (refine TL.rra ?_; first | rintro _ _ ⟨rfl, rfl⟩ | rintro _ _ rfl) | refine TL.offa ?_ | refine TL.off0a ?_ | refine TL.gu ?_ | fail)) | (first | refine Stp.h ?_ | refine Post.then_normal ?_ | refine Post.next ?_ | refine Post.block_other rfl ?_) | ((show Tri _ _ _ (.cond _ _ _) _ _ _; first | refine Tri.cTa ?_ | refine Tri.cFa ?_ | refine Tri.condTa ?_ | refine Tri.condFa ?_ | refine Tri.condNTa ?_ | refine Tri.condNFa ?_ | fail))))
  refine TL.call rfl rfl rfl (length_ok ht (n := x) (by omega)) ?_
  rintro _ As ⟨rfl, rfl⟩
  generalize Lib.nDigits x = nd at hnd hlt ⊢
  have hndq : ((nd : Int) / (k : Int)) = ((nd / k : Nat) : Int) := (Int.natCast_ediv _ _).symm
  have hndl : nd / k ≤ nd := Nat.div_le_self _ _
  have hr10 : rootN x k ≤ 10 ^ (nd / k + 1) := by
    rcases Nat.lt_or_ge (10 ^ (nd / k + 1)) (rootN x k) with h | h
    · exfalso
      have h1 := rootN_pow (m := x) (k := k) (by omega)
      have h2 := Nat.pow_le_pow_left (Nat.le_of_lt h) k
      rw [← Nat.pow_mul] at h2
      have h3 : nd ≤ (nd / k + 1) * k := by
        have := Nat.div_add_mod nd k
        have h4 := Nat.mod_lt nd (show 0 < k by omega)
        rw [Nat.add_mul, Nat.one_mul, Nat.mul_comm]
        omega
      have h5 := Nat.pow_le_pow_right (n := 10) (by omega) h3
      omega
    · exact h
  generalize nd / k = E at hndq hndl hr10
  (repeat' (first | ((show TL _ _ _ _ (_ :: _) _ _ _; first | refine TL.fa ?_ | refine TL.ua ?_ | (refine TL.rba ?_; intro _) | (refine TL.rra ?_; first | rintro _ _ ⟨rfl, rfl⟩ | rintro _ _ rfl) | refine TL.offa ?_ | refine TL.off0a ?_ | refine TL.gu ?_ | fail)) | (first | refine Stp.h ?_ | refine Post.then_normal ?_ | refine Post.next ?_ | refine Post.block_other rfl ?_) | ((show Tri _ _ _ (.cond _ _ _) _ _ _; first | refine Tri.cTa ?_ | refine Tri.cFa ?_ | refine Tri.condTa ?_ | refine Tri.condFa ?_ | refine Tri.condNTa ?_ | refine Tri.condNFa ?_ | fail))))
  rw [hndq]
  (repeat' (first | ((show TL _ _ _ _ (_ :: _) _ _ _; first | refine TL.fa ?_ | refine TL.ua ?_ | (refine TL.rba ?_; intro _) | (refine TL.rra ?_; first | rintro _ _ ⟨rfl, rfl⟩ | rintro _ _ rfl) | refine TL.offa ?_ | refine TL.off0a ?_ | refine TL.gu ?_ | fail)) | (first | refine Stp.h ?_ | refine Post.then_normal ?_ | refine Post.next ?_ | refine Post.block_other rfl ?_) | ((show Tri _ _ _ (.cond _ _ _) _ _ _; first | refine Tri.cTa ?_ | refine Tri.cFa ?_ | refine Tri.condTa ?_ | refine Tri.condFa ?_ | refine Tri.condNTa ?_ | refine Tri.condNFa ?_ | fail))))
  refine TL.call rfl rfl rfl (tenfold_ok (n := E + 1) (by omega)) ?_
  rintro _ _ ⟨p, cap, rfl, rfl⟩
  (repeat' (first | ((show TL _ _ _ _ (_ :: _) _ _ _; first | refine TL.fa ?_ | refine TL.ua ?_ | (refine TL.rba ?_; intro _) | (refine TL.rra ?_; first | rintro _ _ ⟨rfl, rfl⟩ | rintro _ _ rfl) | refine TL.offa ?_ | refine TL.off0a ?_ | refine TL.gu ?_ | fail)) | (first | refine Stp.h ?_ | refine Post.then_normal ?_ | refine Post.next ?_ | refine Post.block_other rfl ?_) | ((show Tri _ _ _ (.cond _ _ _) _ _ _; first | refine Tri.cTa ?_ | refine Tri.cFa ?_ | refine Tri.condTa ?_ | refine Tri.condFa ?_ | refine Tri.condNTa ?_ | refine Tri.condNFa ?_ | fail))))
  refine Tri.loop (ι := Nat × Value) (fun s => rootN x k ≤ s.1 ∧ s.1 ≤ 10 ^ (E + 1)) (fun s => s.1)
    (fun s => [(0, v), (1, .int .i64 (k : Int)), (5, s.2)]) (fun s => .ft (rd (cN .u32) s.2 (mag s.1)) :: As) (10 ^ (E + 1), .slice p (mag (10 ^ (E + 1))).length cap) ⟨hr10, Nat.le_refl _⟩ (by (exact Sub.au)) (by (exact Ents.au)) ?_
  rintro ⟨y, yv⟩ ⟨hy1, hy2⟩
  simp only at hy1 hy2
  have hyl : (mag y).length ≤ E + 2 := mag_len_pow (Nat.lt_of_le_of_lt hy2 (Nat.pow_lt_pow_right (by omega) (by omega)))
  have hyp : (mag (y ^ (k - 1))).length ≤ (mag y).length * (k - 1) + 1 := mag_len_pw y (k - 1)
  have hyk : (mag y).length * (k - 1) ≤ (E + 2) * 99 := Nat.mul_le_mul hyl (by omega)
  have hy0 : 0 < y := by omega
  obtain ⟨j, rfl⟩ : ∃ j, k = j + 1 := ⟨k - 1, by omega⟩
  rw [Nat.add_sub_cancel] at hyp hyk
  show Tri _ _ _ _ [(0, v), (1, .int .i64 ((j + 1 : Nat) : Int)), (5, yv)] (.ft (rd (cN .u32) yv (mag y)) :: As) _
  (repeat' (first | ((show TL _ _ _ _ (_ :: _) _ _ _; first | refine TL.fa ?_ | refine TL.ua ?_ | (refine TL.rba ?_; intro _) | (refine TL.rra ?_; first | rintro _ _ ⟨rfl, rfl⟩ | rintro _ _ rfl) | refine TL.offa ?_ | refine TL.off0a ?_ | refine TL.gu ?_ | fail)) | (first | refine Stp.h ?_ | refine Post.then_normal ?_ | refine Post.next ?_ | refine Post.block_other rfl ?_) | ((show Tri _ _ _ (.cond _ _ _) _ _ _; first | refine Tri.cTa ?_ | refine Tri.cFa ?_ | refine Tri.condTa ?_ | refine Tri.condFa ?_ | refine Tri.condNTa ?_ | refine Tri.condNFa ?_ | fail))))
  refine TL.call rfl rfl rfl (power_ok (x := y) (n := j) (by omega) (by omega) (by omega)) ?_
  rintro _ _ ⟨p1, cap1, rfl, rfl⟩
  have hyj : y ^ j ≠ 0 := by
    have := Nat.pow_pos (n := j) hy0
    omega
  (repeat' (first | ((show TL _ _ _ _ (_ :: _) _ _ _; first | refine TL.fa ?_ | refine TL.ua ?_ | (refine TL.rba ?_; intro _) | (refine TL.rra ?_; first | rintro _ _ ⟨rfl, rfl⟩ | rintro _ _ rfl) | refine TL.offa ?_ | refine TL.off0a ?_ | refine TL.gu ?_ | fail)) | (first | refine Stp.h ?_ | refine Post.then_normal ?_ | refine Post.next ?_ | refine Post.block_other rfl ?_) | ((show Tri _ _ _ (.cond _ _ _) _ _ _; first | refine Tri.cTa ?_ | refine Tri.cFa ?_ | refine Tri.condTa ?_ | refine Tri.condFa ?_ | refine Tri.condNTa ?_ | refine Tri.condNFa ?_ | fail))))
  refine TL.call rfl rfl rfl (divide_ok (a := x) (b := y ^ j) hyj (by omega) (by omega)) ?_
  rintro _ _ ⟨p2, cap2, p3, cap3, rfl, rfl⟩
  (repeat' (first | ((show TL _ _ _ _ (_ :: _) _ _ _; first | refine TL.fa ?_ | refine TL.ua ?_ | (refine TL.rba ?_; intro _) | (refine TL.rra ?_; first | rintro _ _ ⟨rfl, rfl⟩ | rintro _ _ rfl) | refine TL.offa ?_ | refine TL.off0a ?_ | refine TL.gu ?_ | fail)) | (first | refine Stp.h ?_ | refine Post.then_normal ?_ | refine Post.next ?_ | refine Post.block_other rfl ?_) | ((show Tri _ _ _ (.cond _ _ _) _ _ _; first | refine Tri.cTa ?_ | refine Tri.cFa ?_ | refine Tri.condTa ?_ | refine Tri.condFa ?_ | refine Tri.condNTa ?_ | refine Tri.condNFa ?_ | fail))))
  refine TL.call rfl rfl rfl (fromSmall_ok (n := j) (by omega)) ?_
  rintro _ _ ⟨p4, cap4, rfl, rfl⟩
  have hjl : (mag j).length ≤ 1 := mag_len_lt (by omega)
  (repeat' (first | ((show TL _ _ _ _ (_ :: _) _ _ _; first | refine TL.fa ?_ | refine TL.ua ?_ | (refine TL.rba ?_; intro _) | (refine TL.rra ?_; first | rintro _ _ ⟨rfl, rfl⟩ | rintro _ _ rfl) | refine TL.offa ?_ | refine TL.off0a ?_ | refine TL.gu ?_ | fail)) | (first | refine Stp.h ?_ | refine Post.then_normal ?_ | refine Post.next ?_ | refine Post.block_other rfl ?_) | ((show Tri _ _ _ (.cond _ _ _) _ _ _; first | refine Tri.cTa ?_ | refine Tri.cFa ?_ | refine Tri.condTa ?_ | refine Tri.condFa ?_ | refine Tri.condNTa ?_ | refine Tri.condNFa ?_ | fail))))
  refine TL.call rfl rfl rfl (times_ok (a := y) (b := j) (by omega) (by omega)) ?_
  rintro _ _ ⟨p5, cap5, rfl, rfl⟩
  have hm1 := mag_len_mul y j
  have hm2 := mag_len_le (Nat.div_le_self x (y ^ j))
  (repeat' (first | ((show TL _ _ _ _ (_ :: _) _ _ _; first | refine TL.fa ?_ | refine TL.ua ?_ | (refine TL.rba ?_; intro _) | (refine TL.rra ?_; first | rintro _ _ ⟨rfl, rfl⟩ | rintro _ _ rfl) | refine TL.offa ?_ | refine TL.off0a ?_ | refine TL.gu ?_ | fail)) | (first | refine Stp.h ?_ | refine Post.then_normal ?_ | refine Post.next ?_ | refine Post.block_other rfl ?_) | ((show Tri _ _ _ (.cond _ _ _) _ _ _; first | refine Tri.cTa ?_ | refine Tri.cFa ?_ | refine Tri.condTa ?_ | refine Tri.condFa ?_ | refine Tri.condNTa ?_ | refine Tri.condNFa ?_ | fail))))
  refine TL.callv rfl rfl rfl rfl (plus_ok (v := .slice p5 (mag (y * j)).length cap5) (o := .slice p2 (mag (x / y ^ j)).length cap2) (a := y * j) (b := x / y ^ j) (by omega) (by omega)) ?_
  rintro _ _ ⟨p6, cap6, rfl, rfl⟩
  have hm3 := mag_len_add (y * j) (x / y ^ j)
  (repeat' (first | ((show TL _ _ _ _ (_ :: _) _ _ _; first | refine TL.fa ?_ | refine TL.ua ?_ | (refine TL.rba ?_; intro _) | (refine TL.rra ?_; first | rintro _ _ ⟨rfl, rfl⟩ | rintro _ _ rfl) | refine TL.offa ?_ | refine TL.off0a ?_ | refine TL.gu ?_ | fail)) | (first | refine Stp.h ?_ | refine Post.then_normal ?_ | refine Post.next ?_ | refine Post.block_other rfl ?_) | ((show Tri _ _ _ (.cond _ _ _) _ _ _; first | refine Tri.cTa ?_ | refine Tri.cFa ?_ | refine Tri.condTa ?_ | refine Tri.condFa ?_ | refine Tri.condNTa ?_ | refine Tri.condNFa ?_ | fail))))
  refine TL.call rfl rfl rfl (short_ok (a := y * j + x / y ^ j) (d := j + 1) (by omega) (by omega) (by omega)) ?_
  rintro _ _ ⟨p7, cap7, rfl, rfl⟩
  have hge : rootN x (j + 1) ≤ (y * j + x / y ^ j) / (j + 1) := by rw [Nat.mul_comm y j]; exact newton_ge hy0 (rootN_pow (by omega))
  have hm4 := mag_len_le (Nat.div_le_self (y * j + x / y ^ j) (j + 1))
  generalize hz : (y * j + x / y ^ j) / (j + 1) = z at hge hm4 ⊢
  (repeat' (first | ((show TL _ _ _ _ (_ :: _) _ _ _; first | refine TL.fa ?_ | refine TL.ua ?_ | (refine TL.rba ?_; intro _) | (refine TL.rra ?_; first | rintro _ _ ⟨rfl, rfl⟩ | rintro _ _ rfl) | refine TL.offa ?_ | refine TL.off0a ?_ | refine TL.gu ?_ | fail)) | (first | refine Stp.h ?_ | refine Post.then_normal ?_ | refine Post.next ?_ | refine Post.block_other rfl ?_) | ((show Tri _ _ _ (.cond _ _ _) _ _ _; first | refine Tri.cTa ?_ | refine Tri.cFa ?_ | refine Tri.condTa ?_ | refine Tri.condFa ?_ | refine Tri.condNTa ?_ | refine Tri.condNFa ?_ | fail))))
  refine TL.callv rfl rfl rfl rfl (compare_ok (v := .slice p7 (mag z).length cap7) (o := yv) (a := z) (b := y) (by omega) (by omega)) ?_
  rintro _ _ ⟨rfl, rfl⟩
  by_cases hzy : z < y
  · have hc : Lib.compareInt z y < 0 := cmp_lt.2 hzy
    (repeat' (first | ((show TL _ _ _ _ (_ :: _) _ _ _; first | refine TL.fa ?_ | refine TL.ua ?_ | (refine TL.rba ?_; intro _) | (refine TL.rra ?_; first | rintro _ _ ⟨rfl, rfl⟩ | rintro _ _ rfl) | refine TL.offa ?_ | refine TL.off0a ?_ | refine TL.gu ?_ | fail)) | (first | refine Stp.h ?_ | refine Post.then_normal ?_ | refine Post.next ?_ | refine Post.block_other rfl ?_) | ((show Tri _ _ _ (.cond _ _ _) _ _ _; first | refine Tri.cTa ?_ | refine Tri.cFa ?_ | refine Tri.condTa ?_ | refine Tri.condFa ?_ | refine Tri.condNTa ?_ | refine Tri.condNFa ?_ | fail))))
    exact Post.round (z, .slice p7 (mag z).length cap7) ⟨hge, by simp only; omega⟩ (by simp only; omega) (by (exact Sub.au)) (by (exact Ents.au))
  · have hc : ¬ Lib.compareInt z y < 0 := fun h => hzy (cmp_lt.1 h)
    have hyr : y = rootN x (j + 1) := by
      have h1 : y ^ (j + 1) ≤ x := newton_stop hy0 (by rw [Nat.mul_comm j y, hz]; omega)
      have h2 := rootN_max (m := x) (k := j + 1) (by omega) h1
      omega
    rw [← hyr]
    (repeat' (first | ((show TL _ _ _ _ (_ :: _) _ _ _; first | refine TL.fa ?_ | refine TL.ua ?_ | (refine TL.rba ?_; intro _) | (refine TL.rra ?_; first | rintro _ _ ⟨rfl, rfl⟩ | rintro _ _ rfl) | refine TL.offa ?_ | refine TL.off0a ?_ | refine TL.gu ?_ | fail)) | (first | refine Stp.h ?_ | refine Post.then_normal ?_ | refine Post.next ?_ | refine Post.block_other rfl ?_) | ((show Tri _ _ _ (.cond _ _ _) _ _ _; first | refine Tri.cTa ?_ | refine Tri.cFa ?_ | refine Tri.condTa ?_ | refine Tri.condFa ?_ | refine Tri.condNTa ?_ | refine Tri.condNFa ?_ | fail))))
    ((try refine Post.ret_normal ?_); first | refine Post.r1a ?_ | refine Post.r2a ?_ | refine Post.r3a ?_ | refine Post.r0a ?_ | fail)
    exact ⟨_, rfl, by (exact Ents.au)⟩
end Go.Proofs.YtfbhlfhecmhihaaGreatDoor
