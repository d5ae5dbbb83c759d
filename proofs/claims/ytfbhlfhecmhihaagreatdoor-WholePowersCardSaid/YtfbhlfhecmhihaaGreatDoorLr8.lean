/- Walks: WholePowers. -/
import Derived.Test.YtfbhlfhecmhihaaGreatDoorLa3
import Derived.Test.YtfbhlfhecmhihaaGreatDoorVb7
namespace Go.Proofs.YtfbhlfhecmhihaaGreatDoor
open Go Go.Sx
variable {w0 : World} {As : List Ent}
theorem i64_wrap {x z : Int} (h : IntKind.i64.wrap x = z) : -9223372036854775808 ≤ z ∧ z ≤ 9223372036854775807 := by
  have h1 := IR.wrap (k := .i64) (x := x)
  rw [h] at h1
  exact h1
set_option maxRecDepth 100000 in
theorem wholePowers_ok (ht : Tab w0) (he : ErrR w0) (t : Two01) (n k0 : Int) [h1 : RdIn As t.x.gv Nat (cN .u16) t.x.gs] [h2 : RdIn As t.y.gv Nat (cN .u16) t.y.gs] (hk : t.ok) (hn : -9223372036854775808 ≤ n ∧ n ≤ 9223372036854775807) (hk0 : -9223372036854775808 ≤ k0 ∧ k0 ≤ 9223372036854775807) :
    CallsS Tryz.prog w0 5 [.agg t.cells.toArray, .int .i64 n, .int .i64 k0] As fun u _ => u = .bool true := by
  refine CallsS.rdOne t.x.gv fun o1 => CallsS.rdOne t.y.gv fun o2 => ?_
  refine CallsS.of_tri Tryz.func5 rfl Tryz.ntmps5 rfl ?_
  show Tri _ _ _ _ (env0 0 [.agg #[.string ⟨t.a.toArray⟩, .string ⟨t.b.toArray⟩, .bool t.x.below, t.x.gv, .int .u16 (t.x.zeros : Int), .bool t.y.below, t.y.gv, .int .u16 (t.y.zeros : Int)], .int .i64 n, .int .i64 k0]) _ _
  (repeat' (first | ((show TL _ _ _ _ (_ :: _) _ _ _; first | refine TL.fa ?_ | refine TL.ua ?_ | (refine TL.rba ?_; intro _) | (refine TL.rra ?_; first | rintro _ _ ⟨rfl, rfl⟩ | rintro _ _ rfl) | refine TL.offa ?_ | refine TL.off0a ?_ | refine TL.gu ?_ | fail)) | (first | refine Stp.h ?_ | refine Post.then_normal ?_ | refine Post.next ?_ | refine Post.block_other rfl ?_) | ((show Tri _ _ _ (.cond _ _ _) _ _ _; first | refine Tri.cTa ?_ | refine Tri.cFa ?_ | refine Tri.condTa ?_ | refine Tri.condFa ?_ | refine Tri.condNTa ?_ | refine Tri.condNFa ?_ | fail))))
  refine TL.call rfl rfl rfl (works01_ok ht he) ?_
  rintro _ _ ⟨rfl, rfl⟩
  (repeat' (first | ((show TL _ _ _ _ (_ :: _) _ _ _; first | refine TL.fa ?_ | refine TL.ua ?_ | (refine TL.rba ?_; intro _) | (refine TL.rra ?_; first | rintro _ _ ⟨rfl, rfl⟩ | rintro _ _ rfl) | refine TL.offa ?_ | refine TL.off0a ?_ | refine TL.gu ?_ | fail)) | (first | refine Stp.h ?_ | refine Post.then_normal ?_ | refine Post.next ?_ | refine Post.block_other rfl ?_) | ((show Tri _ _ _ (.cond _ _ _) _ _ _; first | refine Tri.cTa ?_ | refine Tri.cFa ?_ | refine Tri.condTa ?_ | refine Tri.condFa ?_ | refine Tri.condNTa ?_ | refine Tri.condNFa ?_ | fail))))
  refine TL.callv rfl rfl rfl rfl (pairs_ok t (h1 := RdIn.tl (h := h1)) (h2 := RdIn.tl (h := h2)) hk) ?_
  rintro _ _ ⟨bp, rfl, rfl⟩
  have hsh := t.short
  have hpl : t.pairs.length = 4 := rfl
  generalize t.pairs = L at hsh hpl
  (repeat' (first | ((show TL _ _ _ _ (_ :: _) _ _ _; first | refine TL.fa ?_ | refine TL.ua ?_ | (refine TL.rba ?_; intro _) | (refine TL.rra ?_; first | rintro _ _ ⟨rfl, rfl⟩ | rintro _ _ rfl) | refine TL.offa ?_ | refine TL.off0a ?_ | refine TL.gu ?_ | fail)) | (first | refine Stp.h ?_ | refine Post.then_normal ?_ | refine Post.next ?_ | refine Post.block_other rfl ?_) | ((show Tri _ _ _ (.cond _ _ _) _ _ _; first | refine Tri.cTa ?_ | refine Tri.cFa ?_ | refine Tri.condTa ?_ | refine Tri.condFa ?_ | refine Tri.condNTa ?_ | refine Tri.condNFa ?_ | fail))))
  refine Tri.loop (ι := Nat) (fun k => k ≤ 4) (fun k => 4 - k)
    (fun k => [(1, .int .i64 n), (2, .int .i64 k0), (22, .slice (some ⟨bp, 0, none⟩) 4 4), (23, .int .i64 4), (24, .int .i64 (k : Int))]) (fun _ => .ow cP 33 (.slice (some ⟨bp, 0, none⟩) 4 4) L :: As) 0 (by omega) (by (exact Sub.au)) (by (exact Ents.au)) ?_
  intro k hk4
  (repeat' (first | ((show TL _ _ _ _ (_ :: _) _ _ _; first | refine TL.fa ?_ | refine TL.ua ?_ | (refine TL.rba ?_; intro _) | (refine TL.rra ?_; first | rintro _ _ ⟨rfl, rfl⟩ | rintro _ _ rfl) | refine TL.offa ?_ | refine TL.off0a ?_ | refine TL.gu ?_ | fail)) | (first | refine Stp.h ?_ | refine Post.then_normal ?_ | refine Post.next ?_ | refine Post.block_other rfl ?_) | ((show Tri _ _ _ (.cond _ _ _) _ _ _; first | refine Tri.cTa ?_ | refine Tri.cFa ?_ | refine Tri.condTa ?_ | refine Tri.condFa ?_ | refine Tri.condNTa ?_ | refine Tri.condNFa ?_ | fail))))
  ((show Tri _ _ _ (.cond _ _ _) _ _ _; first | refine Tri.condP rfl (fun hc => ?_) (fun hc => ?_) | refine Tri.condN rfl (fun hc => ?_) (fun hc => ?_)))
  · obtain ⟨⟨p, q⟩, hp⟩ : ∃ p, L[k]? = some p := ⟨_, List.getElem?_eq_getElem (by omega)⟩
    obtain ⟨hpp, hqq⟩ := hsh _ (List.mem_of_getElem? hp)
    simp only at hpp hqq
    (repeat' (first | ((show TL _ _ _ _ (_ :: _) _ _ _; first | refine TL.fa ?_ | refine TL.ua ?_ | (refine TL.rba ?_; intro _) | (refine TL.rra ?_; first | rintro _ _ ⟨rfl, rfl⟩ | rintro _ _ rfl) | refine TL.offa ?_ | refine TL.off0a ?_ | refine TL.gu ?_ | fail)) | (first | refine Stp.h ?_ | refine Post.then_normal ?_ | refine Post.next ?_ | refine Post.block_other rfl ?_) | ((show Tri _ _ _ (.cond _ _ _) _ _ _; first | refine Tri.cTa ?_ | refine Tri.cFa ?_ | refine Tri.condTa ?_ | refine Tri.condFa ?_ | refine Tri.condNTa ?_ | refine Tri.condNFa ?_ | fail))))
    rename_i b8
    generalize hA : IntKind.i64.wrap ((IntKind.u64.wrap n).tmod 41) = n2
    generalize hB : IntKind.i64.wrap (1 + IntKind.i64.wrap ((IntKind.u64.wrap k0).tmod 12)) = k2
    have hn2 := i64_wrap hA
    have hk2 := i64_wrap hB
    refine Tri.loop (ι := Nat) (fun i => i ≤ 2) (fun i => 2 - i)
      (fun i => [(1, .int .i64 n), (2, .int .i64 k0), (22, .slice (some ⟨bp, 0, none⟩) 4 4), (23, .int .i64 4), (24, .int .i64 (k : Int)), (8, .pointer (some ⟨b8, 0, none⟩)), (41, .agg #[.int .i64 n, .int .i64 k0, .int .i64 n2, .int .i64 k2]), (42, .int .i64 (i : Int))])
      (fun _ => .cl b8 [.string ⟨p.toArray⟩, .string ⟨q.toArray⟩] 33 :: .ow cP 33 (.slice (some ⟨bp, 0, none⟩) 4 4) L :: As) 0 (by omega) (by (exact Sub.au)) (by (exact Ents.au)) ?_
    intro i hi2
    rcases (by omega : i = 0 ∨ i = 1 ∨ i = 2) with rfl | rfl | rfl
    · (repeat' (first | ((show TL _ _ _ _ (_ :: _) _ _ _; first | refine TL.fa ?_ | refine TL.ua ?_ | (refine TL.rba ?_; intro _) | (refine TL.rra ?_; first | rintro _ _ ⟨rfl, rfl⟩ | rintro _ _ rfl) | refine TL.offa ?_ | refine TL.off0a ?_ | refine TL.gu ?_ | fail)) | (first | refine Stp.h ?_ | refine Post.then_normal ?_ | refine Post.next ?_ | refine Post.block_other rfl ?_) | ((show Tri _ _ _ (.cond _ _ _) _ _ _; first | refine Tri.cTa ?_ | refine Tri.cFa ?_ | refine Tri.condTa ?_ | refine Tri.condFa ?_ | refine Tri.condNTa ?_ | refine Tri.condNFa ?_ | fail))))
      rename_i b10
      refine Tri.mid (fun e' As' => ∃ u v : Int, (-9223372036854775808 ≤ u ∧ u ≤ 9223372036854775807) ∧ (-9223372036854775808 ≤ v ∧ v ≤ 9223372036854775807) ∧ e' = [(1, .int .i64 n), (2, .int .i64 k0), (22, .slice (some ⟨bp, 0, none⟩) 4 4), (23, .int .i64 4), (24, .int .i64 (k : Int)), (8, .pointer (some ⟨b8, 0, none⟩)), (10, .pointer (some ⟨b10, 0, none⟩)), (41, .agg #[.int .i64 n, .int .i64 k0, .int .i64 n2, .int .i64 k2]), (42, .int .i64 ((0 : Nat) : Int))] ∧ As' = .cl b10 [.int .i64 u, .int .i64 v] 45 :: .cl b8 [.string ⟨p.toArray⟩, .string ⟨q.toArray⟩] 33 :: .ow cP 33 (.slice (some ⟨bp, 0, none⟩) 4 4) L :: As) ?_ ?_
      · by_cases hl : 150 < p.length
        · (repeat' (first | ((show TL _ _ _ _ (_ :: _) _ _ _; first | refine TL.fa ?_ | refine TL.ua ?_ | (refine TL.rba ?_; intro _) | (refine TL.rra ?_; first | rintro _ _ ⟨rfl, rfl⟩ | rintro _ _ rfl) | refine TL.offa ?_ | refine TL.off0a ?_ | refine TL.gu ?_ | fail)) | (first | refine Stp.h ?_ | refine Post.then_normal ?_ | refine Post.next ?_ | refine Post.block_other rfl ?_) | ((show Tri _ _ _ (.cond _ _ _) _ _ _; first | refine Tri.cTa ?_ | refine Tri.cFa ?_ | refine Tri.condTa ?_ | refine Tri.condFa ?_ | refine Tri.condNTa ?_ | refine Tri.condNFa ?_ | fail))))
          exact Post.cut _ _ ⟨(if 4 < n then 4 else n), (if 3 < k0 then 3 else k0), by split <;> omega, by split <;> omega, rfl, rfl⟩ (by (exact Sub.au)) (by (exact Ents.au))
        · (repeat' (first | ((show TL _ _ _ _ (_ :: _) _ _ _; first | refine TL.fa ?_ | refine TL.ua ?_ | (refine TL.rba ?_; intro _) | (refine TL.rra ?_; first | rintro _ _ ⟨rfl, rfl⟩ | rintro _ _ rfl) | refine TL.offa ?_ | refine TL.off0a ?_ | refine TL.gu ?_ | fail)) | (first | refine Stp.h ?_ | refine Post.then_normal ?_ | refine Post.next ?_ | refine Post.block_other rfl ?_) | ((show Tri _ _ _ (.cond _ _ _) _ _ _; first | refine Tri.cTa ?_ | refine Tri.cFa ?_ | refine Tri.condTa ?_ | refine Tri.condFa ?_ | refine Tri.condNTa ?_ | refine Tri.condNFa ?_ | fail))))
          exact Post.cut _ _ ⟨n, k0, by omega, by omega, rfl, rfl⟩ (by (exact Sub.au)) (by (exact Ents.au))
      rintro _ _ ⟨u, v, hu, hv, rfl, rfl⟩
      (repeat' (first | ((show TL _ _ _ _ (_ :: _) _ _ _; first | refine TL.fa ?_ | refine TL.ua ?_ | (refine TL.rba ?_; intro _) | (refine TL.rra ?_; first | rintro _ _ ⟨rfl, rfl⟩ | rintro _ _ rfl) | refine TL.offa ?_ | refine TL.off0a ?_ | refine TL.gu ?_ | fail)) | (first | refine Stp.h ?_ | refine Post.then_normal ?_ | refine Post.next ?_ | refine Post.block_other rfl ?_) | ((show Tri _ _ _ (.cond _ _ _) _ _ _; first | refine Tri.cTa ?_ | refine Tri.cFa ?_ | refine Tri.condTa ?_ | refine Tri.condFa ?_ | refine Tri.condNTa ?_ | refine Tri.condNFa ?_ | fail))))
      refine TL.call rfl rfl rfl (pow_ok ht hpp hu.1 hu.2) ?_
      rintro _ _ ⟨rfl, rfl⟩
      (repeat' (first | ((show TL _ _ _ _ (_ :: _) _ _ _; first | refine TL.fa ?_ | refine TL.ua ?_ | (refine TL.rba ?_; intro _) | (refine TL.rra ?_; first | rintro _ _ ⟨rfl, rfl⟩ | rintro _ _ rfl) | refine TL.offa ?_ | refine TL.off0a ?_ | refine TL.gu ?_ | fail)) | (first | refine Stp.h ?_ | refine Post.then_normal ?_ | refine Post.next ?_ | refine Post.block_other rfl ?_) | ((show Tri _ _ _ (.cond _ _ _) _ _ _; first | refine Tri.cTa ?_ | refine Tri.cFa ?_ | refine Tri.condTa ?_ | refine Tri.condFa ?_ | refine Tri.condNTa ?_ | refine Tri.condNFa ?_ | fail))))
      refine TL.call rfl rfl rfl (powR_ok hpp) ?_
      rintro _ _ ⟨rfl, rfl⟩
      (repeat' (first | ((show TL _ _ _ _ (_ :: _) _ _ _; first | refine TL.fa ?_ | refine TL.ua ?_ | (refine TL.rba ?_; intro _) | (refine TL.rra ?_; first | rintro _ _ ⟨rfl, rfl⟩ | rintro _ _ rfl) | refine TL.offa ?_ | refine TL.off0a ?_ | refine TL.gu ?_ | fail)) | (first | refine Stp.h ?_ | refine Post.then_normal ?_ | refine Post.next ?_ | refine Post.block_other rfl ?_) | ((show Tri _ _ _ (.cond _ _ _) _ _ _; first | refine Tri.cTa ?_ | refine Tri.cFa ?_ | refine Tri.condTa ?_ | refine Tri.condFa ?_ | refine Tri.condNTa ?_ | refine Tri.condNFa ?_ | fail))))
      refine TL.call rfl rfl rfl (rootT_ok ht hpp hv.1 hv.2) ?_
      rintro _ _ ⟨rfl, rfl⟩
      (repeat' (first | ((show TL _ _ _ _ (_ :: _) _ _ _; first | refine TL.fa ?_ | refine TL.ua ?_ | (refine TL.rba ?_; intro _) | (refine TL.rra ?_; first | rintro _ _ ⟨rfl, rfl⟩ | rintro _ _ rfl) | refine TL.offa ?_ | refine TL.off0a ?_ | refine TL.gu ?_ | fail)) | (first | refine Stp.h ?_ | refine Post.then_normal ?_ | refine Post.next ?_ | refine Post.block_other rfl ?_) | ((show Tri _ _ _ (.cond _ _ _) _ _ _; first | refine Tri.cTa ?_ | refine Tri.cFa ?_ | refine Tri.condTa ?_ | refine Tri.condFa ?_ | refine Tri.condNTa ?_ | refine Tri.condNFa ?_ | fail))))
      refine TL.call rfl rfl rfl (rootR_ok hpp) ?_
      rintro _ _ ⟨rfl, rfl⟩
      have t0 : (powW p u).1 = (powW p u).1 := rfl
      have t1 : (powW p u).2 = (powW p u).2 := rfl
      have t2 : (rootW p v).1 = (rootW p v).1 := rfl
      have t3 : (rootW p v).2 = (rootW p v).2 := rfl
      (repeat' (first | ((show TL _ _ _ _ (_ :: _) _ _ _; first | refine TL.fa ?_ | refine TL.ua ?_ | (refine TL.rba ?_; intro _) | (refine TL.rra ?_; first | rintro _ _ ⟨rfl, rfl⟩ | rintro _ _ rfl) | refine TL.offa ?_ | refine TL.off0a ?_ | refine TL.gu ?_ | fail)) | (first | refine Stp.h ?_ | refine Post.then_normal ?_ | refine Post.next ?_ | refine Post.block_other rfl ?_) | ((show Tri _ _ _ (.cond _ _ _) _ _ _; first | refine Tri.cTa ?_ | refine Tri.cFa ?_ | refine Tri.condTa ?_ | refine Tri.condFa ?_ | refine Tri.condNTa ?_ | refine Tri.condNFa ?_ | fail))))
      exact Post.round 1 (by omega) (by omega) (by (exact Sub.au)) (by (exact Ents.au))
    · (repeat' (first | ((show TL _ _ _ _ (_ :: _) _ _ _; first | refine TL.fa ?_ | refine TL.ua ?_ | (refine TL.rba ?_; intro _) | (refine TL.rra ?_; first | rintro _ _ ⟨rfl, rfl⟩ | rintro _ _ rfl) | refine TL.offa ?_ | refine TL.off0a ?_ | refine TL.gu ?_ | fail)) | (first | refine Stp.h ?_ | refine Post.then_normal ?_ | refine Post.next ?_ | refine Post.block_other rfl ?_) | ((show Tri _ _ _ (.cond _ _ _) _ _ _; first | refine Tri.cTa ?_ | refine Tri.cFa ?_ | refine Tri.condTa ?_ | refine Tri.condFa ?_ | refine Tri.condNTa ?_ | refine Tri.condNFa ?_ | fail))))
      rename_i b10
      refine Tri.mid (fun e' As' => ∃ u v : Int, (-9223372036854775808 ≤ u ∧ u ≤ 9223372036854775807) ∧ (-9223372036854775808 ≤ v ∧ v ≤ 9223372036854775807) ∧ e' = [(1, .int .i64 n), (2, .int .i64 k0), (22, .slice (some ⟨bp, 0, none⟩) 4 4), (23, .int .i64 4), (24, .int .i64 (k : Int)), (8, .pointer (some ⟨b8, 0, none⟩)), (10, .pointer (some ⟨b10, 0, none⟩)), (41, .agg #[.int .i64 n, .int .i64 k0, .int .i64 n2, .int .i64 k2]), (42, .int .i64 ((1 : Nat) : Int))] ∧ As' = .cl b10 [.int .i64 u, .int .i64 v] 45 :: .cl b8 [.string ⟨p.toArray⟩, .string ⟨q.toArray⟩] 33 :: .ow cP 33 (.slice (some ⟨bp, 0, none⟩) 4 4) L :: As) ?_ ?_
      · by_cases hl : 150 < p.length
        · (repeat' (first | ((show TL _ _ _ _ (_ :: _) _ _ _; first | refine TL.fa ?_ | refine TL.ua ?_ | (refine TL.rba ?_; intro _) | (refine TL.rra ?_; first | rintro _ _ ⟨rfl, rfl⟩ | rintro _ _ rfl) | refine TL.offa ?_ | refine TL.off0a ?_ | refine TL.gu ?_ | fail)) | (first | refine Stp.h ?_ | refine Post.then_normal ?_ | refine Post.next ?_ | refine Post.block_other rfl ?_) | ((show Tri _ _ _ (.cond _ _ _) _ _ _; first | refine Tri.cTa ?_ | refine Tri.cFa ?_ | refine Tri.condTa ?_ | refine Tri.condFa ?_ | refine Tri.condNTa ?_ | refine Tri.condNFa ?_ | fail))))
          exact Post.cut _ _ ⟨(if 4 < n2 then 4 else n2), (if 3 < k2 then 3 else k2), by split <;> omega, by split <;> omega, rfl, rfl⟩ (by (exact Sub.au)) (by (exact Ents.au))
        · (repeat' (first | ((show TL _ _ _ _ (_ :: _) _ _ _; first | refine TL.fa ?_ | refine TL.ua ?_ | (refine TL.rba ?_; intro _) | (refine TL.rra ?_; first | rintro _ _ ⟨rfl, rfl⟩ | rintro _ _ rfl) | refine TL.offa ?_ | refine TL.off0a ?_ | refine TL.gu ?_ | fail)) | (first | refine Stp.h ?_ | refine Post.then_normal ?_ | refine Post.next ?_ | refine Post.block_other rfl ?_) | ((show Tri _ _ _ (.cond _ _ _) _ _ _; first | refine Tri.cTa ?_ | refine Tri.cFa ?_ | refine Tri.condTa ?_ | refine Tri.condFa ?_ | refine Tri.condNTa ?_ | refine Tri.condNFa ?_ | fail))))
          exact Post.cut _ _ ⟨n2, k2, by omega, by omega, rfl, rfl⟩ (by (exact Sub.au)) (by (exact Ents.au))
      rintro _ _ ⟨u, v, hu, hv, rfl, rfl⟩
      (repeat' (first | ((show TL _ _ _ _ (_ :: _) _ _ _; first | refine TL.fa ?_ | refine TL.ua ?_ | (refine TL.rba ?_; intro _) | (refine TL.rra ?_; first | rintro _ _ ⟨rfl, rfl⟩ | rintro _ _ rfl) | refine TL.offa ?_ | refine TL.off0a ?_ | refine TL.gu ?_ | fail)) | (first | refine Stp.h ?_ | refine Post.then_normal ?_ | refine Post.next ?_ | refine Post.block_other rfl ?_) | ((show Tri _ _ _ (.cond _ _ _) _ _ _; first | refine Tri.cTa ?_ | refine Tri.cFa ?_ | refine Tri.condTa ?_ | refine Tri.condFa ?_ | refine Tri.condNTa ?_ | refine Tri.condNFa ?_ | fail))))
      refine TL.call rfl rfl rfl (pow_ok ht hpp hu.1 hu.2) ?_
      rintro _ _ ⟨rfl, rfl⟩
      (repeat' (first | ((show TL _ _ _ _ (_ :: _) _ _ _; first | refine TL.fa ?_ | refine TL.ua ?_ | (refine TL.rba ?_; intro _) | (refine TL.rra ?_; first | rintro _ _ ⟨rfl, rfl⟩ | rintro _ _ rfl) | refine TL.offa ?_ | refine TL.off0a ?_ | refine TL.gu ?_ | fail)) | (first | refine Stp.h ?_ | refine Post.then_normal ?_ | refine Post.next ?_ | refine Post.block_other rfl ?_) | ((show Tri _ _ _ (.cond _ _ _) _ _ _; first | refine Tri.cTa ?_ | refine Tri.cFa ?_ | refine Tri.condTa ?_ | refine Tri.condFa ?_ | refine Tri.condNTa ?_ | refine Tri.condNFa ?_ | fail))))
      refine TL.call rfl rfl rfl (powR_ok hpp) ?_
      rintro _ _ ⟨rfl, rfl⟩
      (repeat' (first | ((show TL _ _ _ _ (_ :: _) _ _ _; first | refine TL.fa ?_ | refine TL.ua ?_ | (refine TL.rba ?_; intro _) | (refine TL.rra ?_; first | rintro _ _ ⟨rfl, rfl⟩ | rintro _ _ rfl) | refine TL.offa ?_ | refine TL.off0a ?_ | refine TL.gu ?_ | fail)) | (first | refine Stp.h ?_ | refine Post.then_normal ?_ | refine Post.next ?_ | refine Post.block_other rfl ?_) | ((show Tri _ _ _ (.cond _ _ _) _ _ _; first | refine Tri.cTa ?_ | refine Tri.cFa ?_ | refine Tri.condTa ?_ | refine Tri.condFa ?_ | refine Tri.condNTa ?_ | refine Tri.condNFa ?_ | fail))))
      refine TL.call rfl rfl rfl (rootT_ok ht hpp hv.1 hv.2) ?_
      rintro _ _ ⟨rfl, rfl⟩
      (repeat' (first | ((show TL _ _ _ _ (_ :: _) _ _ _; first | refine TL.fa ?_ | refine TL.ua ?_ | (refine TL.rba ?_; intro _) | (refine TL.rra ?_; first | rintro _ _ ⟨rfl, rfl⟩ | rintro _ _ rfl) | refine TL.offa ?_ | refine TL.off0a ?_ | refine TL.gu ?_ | fail)) | (first | refine Stp.h ?_ | refine Post.then_normal ?_ | refine Post.next ?_ | refine Post.block_other rfl ?_) | ((show Tri _ _ _ (.cond _ _ _) _ _ _; first | refine Tri.cTa ?_ | refine Tri.cFa ?_ | refine Tri.condTa ?_ | refine Tri.condFa ?_ | refine Tri.condNTa ?_ | refine Tri.condNFa ?_ | fail))))
      refine TL.call rfl rfl rfl (rootR_ok hpp) ?_
      rintro _ _ ⟨rfl, rfl⟩
      have t0 : (powW p u).1 = (powW p u).1 := rfl
      have t1 : (powW p u).2 = (powW p u).2 := rfl
      have t2 : (rootW p v).1 = (rootW p v).1 := rfl
      have t3 : (rootW p v).2 = (rootW p v).2 := rfl
      (repeat' (first | ((show TL _ _ _ _ (_ :: _) _ _ _; first | refine TL.fa ?_ | refine TL.ua ?_ | (refine TL.rba ?_; intro _) | (refine TL.rra ?_; first | rintro _ _ ⟨rfl, rfl⟩ | rintro _ _ rfl) | refine TL.offa ?_ | refine TL.off0a ?_ | refine TL.gu ?_ | fail)) | (first | refine Stp.h ?_ | refine Post.then_normal ?_ | refine Post.next ?_ | refine Post.block_other rfl ?_) | ((show Tri _ _ _ (.cond _ _ _) _ _ _; first | refine Tri.cTa ?_ | refine Tri.cFa ?_ | refine Tri.condTa ?_ | refine Tri.condFa ?_ | refine Tri.condNTa ?_ | refine Tri.condNFa ?_ | fail))))
      exact Post.round 2 (by omega) (by omega) (by (exact Sub.au)) (by (exact Ents.au))
    · (repeat' (first | ((show TL _ _ _ _ (_ :: _) _ _ _; first | refine TL.fa ?_ | refine TL.ua ?_ | (refine TL.rba ?_; intro _) | (refine TL.rra ?_; first | rintro _ _ ⟨rfl, rfl⟩ | rintro _ _ rfl) | refine TL.offa ?_ | refine TL.off0a ?_ | refine TL.gu ?_ | fail)) | (first | refine Stp.h ?_ | refine Post.then_normal ?_ | refine Post.next ?_ | refine Post.block_other rfl ?_) | ((show Tri _ _ _ (.cond _ _ _) _ _ _; first | refine Tri.cTa ?_ | refine Tri.cFa ?_ | refine Tri.condTa ?_ | refine Tri.condFa ?_ | refine Tri.condNTa ?_ | refine Tri.condNFa ?_ | fail))))
      exact Post.round (k + 1) (by omega) (by omega) (by (exact Sub.au)) (by (exact Ents.au))
  · (repeat' (first | ((show TL _ _ _ _ (_ :: _) _ _ _; first | refine TL.fa ?_ | refine TL.ua ?_ | (refine TL.rba ?_; intro _) | (refine TL.rra ?_; first | rintro _ _ ⟨rfl, rfl⟩ | rintro _ _ rfl) | refine TL.offa ?_ | refine TL.off0a ?_ | refine TL.gu ?_ | fail)) | (first | refine Stp.h ?_ | refine Post.then_normal ?_ | refine Post.next ?_ | refine Post.block_other rfl ?_) | ((show Tri _ _ _ (.cond _ _ _) _ _ _; first | refine Tri.cTa ?_ | refine Tri.cFa ?_ | refine Tri.condTa ?_ | refine Tri.condFa ?_ | refine Tri.condNTa ?_ | refine Tri.condNFa ?_ | fail))))
    ((try refine Post.ret_normal ?_); first | refine Post.r1a ?_ | refine Post.r2a ?_ | refine Post.r3a ?_ | refine Post.r0a ?_ | fail)
    exact ⟨_, rfl, Ents.refl _⟩
end Go.Proofs.YtfbhlfhecmhihaaGreatDoor
