/- Walks: grids: the outputs at a node. -/
import Derived.Test.YtjpghlljcibcjaaGreatDoorSw3
namespace Go.Proofs.YtjpghlljcibcjaaGreatDoor
open Go Go.Sx
variable {w0 : World} {As : List Ent}
instance (priority := high) : ElC Tryz.prog 3 Int (cI .i64) 0 8 := ⟨by obtain ⟨i, h1, h2, h3, h4⟩ := (inferInstance : TI Tryz.prog 3 _ _ _).info; exact ⟨i, _, h1, h2, h3, h4, rfl⟩, by decide⟩
/-- a valid grid with three inputs and outputs, and a node of it -/
structure Node3 (S D : List Int) (a b c i j k : Nat) : Prop where
  size : S = [(a : Int), (b : Int), (c : Int)]
  ok : gridOk S 3 D = true
  i : i < a
  j : j < b
  k : k < c
theorem Node3.lim {S D : List Int} {a b c i j k : Nat} (h : Node3 S D a b c i j k) : a ≤ 9 ∧ b ≤ 9 ∧ c ≤ 9 ∧ D.length = 3 * (a * b * c) ∧ D.length ≤ 4096 := by
  obtain ⟨h1, h2, _, _, _⟩ := h
  subst h1
  obtain ⟨_, _, h3, ⟨h4, h5⟩, _⟩ := gridOk_iff.1 h2
  have ha := h3 a (by simp)
  have hb := h3 b (by simp)
  have hc := h3 c (by simp)
  refine ⟨by omega, by omega, by omega, ?_, h4⟩
  have e : prodI [(a : Int), (b : Int), (c : Int)] = ((a * b * c : Nat) : Int) := by simp [prodI]
  rw [e] at h5
  omega
theorem findG_ok {sv dv v : Value} {S D : List Int} {a b c i j k : Nat} [hs : RdIn As sv Int (cI .i64) S] [hd : RdIn As dv Int (cI .i64) D] [hv : RdIn As v Int (cI .i64) [(i : Int), (j : Int), (k : Int)]] (hN : Node3 S D a b c i j k) :
    CallsS Tryz.prog w0 74 [.agg #[sv, .int .i64 3, dv], v] As fun u Bs => u = .tuple #[.agg #[.int .i64 (i : Int), .int .i64 (j : Int), .int .i64 (k : Int), .int .i64 0], .bool true] ∧ Bs = As := by
  obtain ⟨l1, l2, l3, l4, l5⟩ := hN.lim
  obtain ⟨hS, _, hi, hj, hk⟩ := hN
  have g0 : S[0]? = some (a : Int) := by rw [hS]; rfl
  have g1 : S[1]? = some (b : Int) := by rw [hS]; rfl
  have g2 : S[2]? = some (c : Int) := by rw [hS]; rfl
  have hl3 : S.length = 3 := by rw [hS]; rfl
  generalize hX : [(i : Int), (j : Int), (k : Int)] = X at hv
  have x0 : X[0]? = some (i : Int) := by rw [← hX]; rfl
  have x1 : X[1]? = some (j : Int) := by rw [← hX]; rfl
  have x2 : X[2]? = some (k : Int) := by rw [← hX]; rfl
  have xl : X.length = 3 := by rw [← hX]; rfl
  refine CallsS.rdOne sv fun hsv => CallsS.rdOne dv fun hdv => ?_
  refine CallsS.of_tri Tryz.func74 rfl Tryz.ntmps74 rfl ?_
  (repeat' (first | ((show TL _ _ _ _ (_ :: _) _ _ _; first | refine TL.fa ?_ | refine TL.ua ?_ | (refine TL.rba ?_; intro _) | (refine TL.rra ?_; first | rintro _ _ ⟨rfl, rfl⟩ | rintro _ _ rfl) | refine TL.offa ?_ | refine TL.off0a ?_ | refine TL.gu ?_ | fail)) | (first | refine Stp.h ?_ | refine Post.then_normal ?_ | refine Post.next ?_ | refine Post.block_other rfl ?_) | ((show Tri _ _ _ (.cond _ _ _) _ _ _; first | refine Tri.cTa ?_ | refine Tri.cFa ?_ | refine Tri.condTa ?_ | refine Tri.condFa ?_ | refine Tri.condNTa ?_ | refine Tri.condNFa ?_ | fail))))
  refine Tri.unroll 4 ?_
  (repeat' (first | ((show TL _ _ _ _ (_ :: _) _ _ _; first | refine TL.fa ?_ | refine TL.ua ?_ | (refine TL.rba ?_; intro _) | (refine TL.rra ?_; first | rintro _ _ ⟨rfl, rfl⟩ | rintro _ _ rfl) | refine TL.offa ?_ | refine TL.off0a ?_ | refine TL.gu ?_ | fail)) | (first | refine Stp.h ?_ | refine Post.then_normal ?_ | refine Post.next ?_ | refine Post.block_other rfl ?_) | ((show Tri _ _ _ (.cond _ _ _) _ _ _; first | refine Tri.cTa ?_ | refine Tri.cFa ?_ | refine Tri.condTa ?_ | refine Tri.condFa ?_ | refine Tri.condNTa ?_ | refine Tri.condNFa ?_ | fail))))
  refine TL.call rfl rfl rfl withinG_ok ?_
  rintro _ _ ⟨rfl, rfl⟩
  (repeat' (first | ((show TL _ _ _ _ (_ :: _) _ _ _; first | refine TL.fa ?_ | refine TL.ua ?_ | (refine TL.rba ?_; intro _) | (refine TL.rra ?_; first | rintro _ _ ⟨rfl, rfl⟩ | rintro _ _ rfl) | refine TL.offa ?_ | refine TL.off0a ?_ | refine TL.gu ?_ | fail)) | (first | refine Stp.h ?_ | refine Post.then_normal ?_ | refine Post.next ?_ | refine Post.block_other rfl ?_) | ((show Tri _ _ _ (.cond _ _ _) _ _ _; first | refine Tri.cTa ?_ | refine Tri.cFa ?_ | refine Tri.condTa ?_ | refine Tri.condFa ?_ | refine Tri.condNTa ?_ | refine Tri.condNFa ?_ | fail))))
  refine TL.call rfl rfl rfl withinG_ok ?_
  rintro _ _ ⟨rfl, rfl⟩
  (repeat' (first | ((show TL _ _ _ _ (_ :: _) _ _ _; first | refine TL.fa ?_ | refine TL.ua ?_ | (refine TL.rba ?_; intro _) | (refine TL.rra ?_; first | rintro _ _ ⟨rfl, rfl⟩ | rintro _ _ rfl) | refine TL.offa ?_ | refine TL.off0a ?_ | refine TL.gu ?_ | fail)) | (first | refine Stp.h ?_ | refine Post.then_normal ?_ | refine Post.next ?_ | refine Post.block_other rfl ?_) | ((show Tri _ _ _ (.cond _ _ _) _ _ _; first | refine Tri.cTa ?_ | refine Tri.cFa ?_ | refine Tri.condTa ?_ | refine Tri.condFa ?_ | refine Tri.condNTa ?_ | refine Tri.condNFa ?_ | fail))))
  refine TL.call rfl rfl rfl withinG_ok ?_
  rintro _ _ ⟨rfl, rfl⟩
  (repeat' (first | ((show TL _ _ _ _ (_ :: _) _ _ _; first | refine TL.fa ?_ | refine TL.ua ?_ | (refine TL.rba ?_; intro _) | (refine TL.rra ?_; first | rintro _ _ ⟨rfl, rfl⟩ | rintro _ _ rfl) | refine TL.offa ?_ | refine TL.off0a ?_ | refine TL.gu ?_ | fail)) | (first | refine Stp.h ?_ | refine Post.then_normal ?_ | refine Post.next ?_ | refine Post.block_other rfl ?_) | ((show Tri _ _ _ (.cond _ _ _) _ _ _; first | refine Tri.cTa ?_ | refine Tri.cFa ?_ | refine Tri.condTa ?_ | refine Tri.condFa ?_ | refine Tri.condNTa ?_ | refine Tri.condNFa ?_ | fail))))
  ((try refine Post.ret_normal ?_); first | refine Post.r1a ?_ | refine Post.r2a ?_ | refine Post.r3a ?_ | refine Post.r0a ?_ | fail)
  exact ⟨_, ⟨rfl, rfl⟩, by (exact Ents.au)⟩
theorem placeG_ok {sv dv : Value} {S D : List Int} {a b c i j k : Nat} [hs : RdIn As sv Int (cI .i64) S] [hd : RdIn As dv Int (cI .i64) D] (hN : Node3 S D a b c i j k) :
    CallsS Tryz.prog w0 100 [.agg #[sv, .int .i64 3, dv], .agg #[.int .i64 (i : Int), .int .i64 (j : Int), .int .i64 (k : Int), .int .i64 0]] As fun u Bs => u = .int .i64 ((3 * ((i * b + j) * c + k) : Nat) : Int) ∧ Bs = As := by
  obtain ⟨l1, l2, l3, l4, l5⟩ := hN.lim
  obtain ⟨hS, _, hi, hj, hk⟩ := hN
  have g0 : S[0]? = some (a : Int) := by rw [hS]; rfl
  have g1 : S[1]? = some (b : Int) := by rw [hS]; rfl
  have g2 : S[2]? = some (c : Int) := by rw [hS]; rfl
  have hl3 : S.length = 3 := by rw [hS]; rfl
  have e1 : (0 : Int) * (a : Int) + (i : Int) = (i : Int) := by omega
  have e2 : (i : Int) * (b : Int) + (j : Int) = ((i * b + j : Nat) : Int) := by rw [Int.natCast_add, Int.natCast_mul]
  have e3 : ((i * b + j : Nat) : Int) * (c : Int) + (k : Int) = (((i * b + j) * c + k : Nat) : Int) := by rw [Int.natCast_add _ k, Int.natCast_mul _ c]
  have b2 : i * b + j < 100 := by
    have := Nat.mul_le_mul (show i ≤ 8 by omega) l2
    omega
  have b3 : (i * b + j) * c + k < 1000 := by
    have := Nat.mul_le_mul (show i * b + j ≤ 99 by omega) l3
    omega
  have m2 : (i : Int) * (b : Int) = ((i * b : Nat) : Int) := (Int.natCast_mul i b).symm
  refine CallsS.rdOne sv fun hsv => CallsS.rdOne dv fun hdv => ?_
  refine CallsS.of_tri Tryz.func100 rfl Tryz.ntmps100 rfl ?_
  (repeat' (first | ((show TL _ _ _ _ (_ :: _) _ _ _; first | refine TL.fa ?_ | refine TL.ua ?_ | (refine TL.rba ?_; intro _) | (refine TL.rra ?_; first | rintro _ _ ⟨rfl, rfl⟩ | rintro _ _ rfl) | refine TL.offa ?_ | refine TL.off0a ?_ | refine TL.gu ?_ | fail)) | (first | refine Stp.h ?_ | refine Post.then_normal ?_ | refine Post.next ?_ | refine Post.block_other rfl ?_) | ((show Tri _ _ _ (.cond _ _ _) _ _ _; first | refine Tri.cTa ?_ | refine Tri.cFa ?_ | refine Tri.condTa ?_ | refine Tri.condFa ?_ | refine Tri.condNTa ?_ | refine Tri.condNFa ?_ | fail))))
  refine Tri.unroll 4 ?_
  (repeat' (first | ((show TL _ _ _ _ (_ :: _) _ _ _; first | refine TL.fa ?_ | refine TL.ua ?_ | (refine TL.rba ?_; intro _) | (refine TL.rra ?_; first | rintro _ _ ⟨rfl, rfl⟩ | rintro _ _ rfl) | refine TL.offa ?_ | refine TL.off0a ?_ | refine TL.gu ?_ | fail)) | (first | refine Stp.h ?_ | refine Post.then_normal ?_ | refine Post.next ?_ | refine Post.block_other rfl ?_) | ((show Tri _ _ _ (.cond _ _ _) _ _ _; first | refine Tri.cTa ?_ | refine Tri.cFa ?_ | refine Tri.condTa ?_ | refine Tri.condFa ?_ | refine Tri.condNTa ?_ | refine Tri.condNFa ?_ | fail))))
  ((try refine Post.ret_normal ?_); first | refine Post.r1a ?_ | refine Post.r2a ?_ | refine Post.r3a ?_ | refine Post.r0a ?_ | fail)
  have w : ∀ n : Nat, n ≤ 100000 → IntKind.i64.wrap (n : Int) = (n : Int) := fun n h => wrap_of_IR ⟨by omega, by omega⟩
  refine ⟨_, ⟨?_, rfl⟩, by (exact Ents.au)⟩
  congr 1
  rw [e1, m2, w _ (by omega), ← Int.natCast_add, w _ (by omega), ← Int.natCast_mul, w _ (by omega), ← Int.natCast_add, w _ (by omega), show (((i * b + j) * c + k : Nat) : Int) * 3 = ((3 * ((i * b + j) * c + k) : Nat) : Int) by omega, w _ (by omega)]
theorem valuesG_ok {sv dv : Value} {S D : List Int} {a b c i j k : Nat} [hs : RdIn As sv Int (cI .i64) S] [hd : RdIn As dv Int (cI .i64) D] (hN : Node3 S D a b c i j k) :
    CallsS Tryz.prog w0 75 [.agg #[sv, .int .i64 3, dv], .agg #[.int .i64 (i : Int), .int .i64 (j : Int), .int .i64 (k : Int), .int .i64 0]] As fun u Bs => Bs = .ow (cI .i64) 3 u ((D.drop (3 * ((i * b + j) * c + k))).take 3) :: As := by
  obtain ⟨l1, l2, l3, l4, l5⟩ := hN.lim
  have hlt := lt_cells hN.i hN.j hN.k
  refine CallsS.rdOne sv fun hsv => CallsS.rdOne dv fun hdv => ?_
  refine CallsS.of_tri Tryz.func75 rfl Tryz.ntmps75 rfl ?_
  (repeat' (first | ((show TL _ _ _ _ (_ :: _) _ _ _; first | refine TL.fa ?_ | refine TL.ua ?_ | (refine TL.rba ?_; intro _) | (refine TL.rra ?_; first | rintro _ _ ⟨rfl, rfl⟩ | rintro _ _ rfl) | refine TL.offa ?_ | refine TL.off0a ?_ | refine TL.gu ?_ | fail)) | (first | refine Stp.h ?_ | refine Post.then_normal ?_ | refine Post.next ?_ | refine Post.block_other rfl ?_) | ((show Tri _ _ _ (.cond _ _ _) _ _ _; first | refine Tri.cTa ?_ | refine Tri.cFa ?_ | refine Tri.condTa ?_ | refine Tri.condFa ?_ | refine Tri.condNTa ?_ | refine Tri.condNFa ?_ | fail))))
  refine TL.call rfl rfl rfl (placeG_ok hN) ?_
  rintro _ _ ⟨rfl, rfl⟩
  generalize hp : (i * b + j) * c + k = p at hlt
  (repeat' (first | ((show TL _ _ _ _ (_ :: _) _ _ _; first | refine TL.fa ?_ | refine TL.ua ?_ | (refine TL.rba ?_; intro _) | (refine TL.rra ?_; first | rintro _ _ ⟨rfl, rfl⟩ | rintro _ _ rfl) | refine TL.offa ?_ | refine TL.off0a ?_ | refine TL.gu ?_ | fail)) | (first | refine Stp.h ?_ | refine Post.then_normal ?_ | refine Post.next ?_ | refine Post.block_other rfl ?_) | ((show Tri _ _ _ (.cond _ _ _) _ _ _; first | refine Tri.cTa ?_ | refine Tri.cFa ?_ | refine Tri.condTa ?_ | refine Tri.condFa ?_ | refine Tri.condNTa ?_ | refine Tri.condNFa ?_ | fail))))
  refine TL.rr rfl rfl (ExR.makeZ (cd := cI .i64) (n := 3) rfl rfl (by decide) (by decide) (by decide) (by decide)) ?_
  rintro v6 _ rfl
  (repeat' (first | ((show TL _ _ _ _ (_ :: _) _ _ _; first | refine TL.fa ?_ | refine TL.ua ?_ | (refine TL.rba ?_; intro _) | (refine TL.rra ?_; first | rintro _ _ ⟨rfl, rfl⟩ | rintro _ _ rfl) | refine TL.offa ?_ | refine TL.off0a ?_ | refine TL.gu ?_ | fail)) | (first | refine Stp.h ?_ | refine Post.then_normal ?_ | refine Post.next ?_ | refine Post.block_other rfl ?_) | ((show Tri _ _ _ (.cond _ _ _) _ _ _; first | refine Tri.cTa ?_ | refine Tri.cFa ?_ | refine Tri.condTa ?_ | refine Tri.condFa ?_ | refine Tri.condNTa ?_ | refine Tri.condNFa ?_ | fail))))
  have hsub : ∀ {Bs : List Ent} [RdIn Bs dv Int (cI .i64) D], RdIn Bs (subV 1 dv (3 * p) (3 * p + 3)) Int (cI .i64) ((D.drop (3 * p)).take 3) := by
    intro Bs hB
    have := RdIn.sub (h := hB) (lo := 3 * p) (hi := 3 * p + 3) (by omega) (by omega)
    rwa [show 3 * p + 3 - 3 * p = 3 by omega] at this
  have hlen3 : ((D.drop (3 * p)).take 3).length = 3 := by rw [List.length_take, List.length_drop]; omega
  have hrl : (List.replicate 3 (0 : Int)).length = 3 := rfl
  refine TL.f rfl rfl (ExF.sliceRd (c := cI .i64) (xs := D) (lo := 3 * p) (hi := 3 * p + 3) rfl (evLo.so rfl) (evHi.so rfl) (by omega) (by omega)) ?_
  refine TL.rr rfl rfl (ExR.copyW (c := cI .i64) (ys := (D.drop (3 * p)).take 3) rfl rfl rfl (by rw [hlen3, hrl]; omega)) ?_
  rintro _ _ ⟨rfl, rfl⟩
  rw [hlen3]
  rw [show (List.replicate 3 (0 : Int)).drop 3 = [] from rfl, List.append_nil]
  (repeat' (first | ((show TL _ _ _ _ (_ :: _) _ _ _; first | refine TL.fa ?_ | refine TL.ua ?_ | (refine TL.rba ?_; intro _) | (refine TL.rra ?_; first | rintro _ _ ⟨rfl, rfl⟩ | rintro _ _ rfl) | refine TL.offa ?_ | refine TL.off0a ?_ | refine TL.gu ?_ | fail)) | (first | refine Stp.h ?_ | refine Post.then_normal ?_ | refine Post.next ?_ | refine Post.block_other rfl ?_) | ((show Tri _ _ _ (.cond _ _ _) _ _ _; first | refine Tri.cTa ?_ | refine Tri.cFa ?_ | refine Tri.condTa ?_ | refine Tri.condFa ?_ | refine Tri.condNTa ?_ | refine Tri.condNFa ?_ | fail))))
  ((try refine Post.ret_normal ?_); first | refine Post.r1a ?_ | refine Post.r2a ?_ | refine Post.r3a ?_ | refine Post.r0a ?_ | fail)
  exact ⟨_, rfl, by (exact Ents.au)⟩
theorem atG_ok {sv dv v : Value} {S D : List Int} {a b c i j k : Nat} [hs : RdIn As sv Int (cI .i64) S] [hd : RdIn As dv Int (cI .i64) D] [hv : RdIn As v Int (cI .i64) [(i : Int), (j : Int), (k : Int)]] (hN : Node3 S D a b c i j k) :
    CallsS Tryz.prog w0 55 [.agg #[sv, .int .i64 3, dv], v] As fun u Bs => ∃ q, u = .tuple #[q, .int .i64 0] ∧ Bs = .ow (cI .i64) 3 q ((D.drop (3 * ((i * b + j) * c + k))).take 3) :: As := by
  obtain ⟨l1, l2, l3, l4, l5⟩ := hN.lim
  have hSl : S.length = 3 := by rw [hN.size]; rfl
  have hok := hN.ok
  refine CallsS.rdOne sv fun hsv => CallsS.rdOne dv fun hdv => ?_
  refine CallsS.of_tri Tryz.func55 rfl Tryz.ntmps55 rfl ?_
  (repeat' (first | ((show TL _ _ _ _ (_ :: _) _ _ _; first | refine TL.fa ?_ | refine TL.ua ?_ | (refine TL.rba ?_; intro _) | (refine TL.rra ?_; first | rintro _ _ ⟨rfl, rfl⟩ | rintro _ _ rfl) | refine TL.offa ?_ | refine TL.off0a ?_ | refine TL.gu ?_ | fail)) | (first | refine Stp.h ?_ | refine Post.then_normal ?_ | refine Post.next ?_ | refine Post.block_other rfl ?_) | ((show Tri _ _ _ (.cond _ _ _) _ _ _; first | refine Tri.cTa ?_ | refine Tri.cFa ?_ | refine Tri.condTa ?_ | refine Tri.condFa ?_ | refine Tri.condNTa ?_ | refine Tri.condNFa ?_ | fail))))
  refine TL.call rfl rfl rfl (gridG_ok (S := S) (D := D) (by omega) (by omega)) ?_
  rintro _ _ ⟨rfl, rfl⟩
  rw [if_pos hok]
  (repeat' (first | ((show TL _ _ _ _ (_ :: _) _ _ _; first | refine TL.fa ?_ | refine TL.ua ?_ | (refine TL.rba ?_; intro _) | (refine TL.rra ?_; first | rintro _ _ ⟨rfl, rfl⟩ | rintro _ _ rfl) | refine TL.offa ?_ | refine TL.off0a ?_ | refine TL.gu ?_ | fail)) | (first | refine Stp.h ?_ | refine Post.then_normal ?_ | refine Post.next ?_ | refine Post.block_other rfl ?_) | ((show Tri _ _ _ (.cond _ _ _) _ _ _; first | refine Tri.cTa ?_ | refine Tri.cFa ?_ | refine Tri.condTa ?_ | refine Tri.condFa ?_ | refine Tri.condNTa ?_ | refine Tri.condNFa ?_ | fail))))
  refine TL.call rfl rfl rfl (findG_ok hN) ?_
  rintro _ _ ⟨rfl, rfl⟩
  (repeat' (first | ((show TL _ _ _ _ (_ :: _) _ _ _; first | refine TL.fa ?_ | refine TL.ua ?_ | (refine TL.rba ?_; intro _) | (refine TL.rra ?_; first | rintro _ _ ⟨rfl, rfl⟩ | rintro _ _ rfl) | refine TL.offa ?_ | refine TL.off0a ?_ | refine TL.gu ?_ | fail)) | (first | refine Stp.h ?_ | refine Post.then_normal ?_ | refine Post.next ?_ | refine Post.block_other rfl ?_) | ((show Tri _ _ _ (.cond _ _ _) _ _ _; first | refine Tri.cTa ?_ | refine Tri.cFa ?_ | refine Tri.condTa ?_ | refine Tri.condFa ?_ | refine Tri.condNTa ?_ | refine Tri.condNFa ?_ | fail))))
  refine TL.call rfl rfl rfl (valuesG_ok hN) ?_
  rintro _ _ rfl
  (repeat' (first | ((show TL _ _ _ _ (_ :: _) _ _ _; first | refine TL.fa ?_ | refine TL.ua ?_ | (refine TL.rba ?_; intro _) | (refine TL.rra ?_; first | rintro _ _ ⟨rfl, rfl⟩ | rintro _ _ rfl) | refine TL.offa ?_ | refine TL.off0a ?_ | refine TL.gu ?_ | fail)) | (first | refine Stp.h ?_ | refine Post.then_normal ?_ | refine Post.next ?_ | refine Post.block_other rfl ?_) | ((show Tri _ _ _ (.cond _ _ _) _ _ _; first | refine Tri.cTa ?_ | refine Tri.cFa ?_ | refine Tri.condTa ?_ | refine Tri.condFa ?_ | refine Tri.condNTa ?_ | refine Tri.condNFa ?_ | fail))))
  ((try refine Post.ret_normal ?_); first | refine Post.r1a ?_ | refine Post.r2a ?_ | refine Post.r3a ?_ | refine Post.r0a ?_ | fail)
  exact ⟨_, ⟨_, rfl, rfl⟩, by (exact Ents.au)⟩
end Go.Proofs.YtjpghlljcibcjaaGreatDoor
