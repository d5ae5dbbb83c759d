/- Walks: the law of the field. -/
import Derived.Test.YtldljckhfcoafaaGreatDoorLf3
namespace Go.Proofs.YtldljckhfcoafaaGreatDoor.Q
open Go Go.Sx
variable {w0 : World} {As : List Ent}
/-- some fraction with at most k digits above and below comes back -/
def FracT (k : Nat) (As : List Ent) (u : Value) (Bs : List Ent) : Prop := ∃ r : Rat, Fit k r ∧ u = .agg #[.string ⟨(tN r).toArray⟩, .string ⟨(tD r).toArray⟩] ∧ Bs = As
set_option maxHeartbeats 4000000 in
theorem fracField_ok (ht : Tab w0) (he : ErrR w0) (hm : LenR w0) (x y z : D02) (kx : x.ok) (ky : y.ok) (kz : z.ok)
    [r1 : RdIn As x.n.gv Nat (cN .u16) x.n.gs] [r2 : RdIn As x.d.gv Nat (cN .u16) x.d.gs] [r3 : RdIn As y.n.gv Nat (cN .u16) y.n.gs] [r4 : RdIn As y.d.gv Nat (cN .u16) y.d.gs] [r5 : RdIn As z.n.gv Nat (cN .u16) z.n.gs] [r6 : RdIn As z.d.gv Nat (cN .u16) z.d.gs] :
    CallsS Tryz.prog w0 5 [.agg x.cells.toArray, .agg y.cells.toArray, .agg z.cells.toArray] As fun u _ => u = .bool true := by
  obtain ⟨⟨hx1, gx, lx, zx⟩, ⟨hx1', gx', lx', zx'⟩⟩ := x
  obtain ⟨⟨hy1, gy, ly, zy⟩, ⟨hy1', gy', ly', zy'⟩⟩ := y
  obtain ⟨⟨hz1, gz, lz, zz⟩, ⟨hz1', gz', lz', zz'⟩⟩ := z
  replace r1 : RdIn As gx Nat (cN .u16) lx := r1
  replace r2 : RdIn As gx' Nat (cN .u16) lx' := r2
  replace r3 : RdIn As gy Nat (cN .u16) ly := r3
  replace r4 : RdIn As gy' Nat (cN .u16) ly' := r4
  replace r5 : RdIn As gz Nat (cN .u16) lz := r5
  replace r6 : RdIn As gz' Nat (cN .u16) lz' := r6
  refine CallsS.rdSl gx fun p0 c0 e0 => ?_
  refine CallsS.rdSl gx' fun p1 c1 e1 => ?_
  refine CallsS.rdSl gy fun p2 c2 e2 => ?_
  refine CallsS.rdSl gy' fun p3 c3 e3 => ?_
  refine CallsS.rdSl gz fun p4 c4 e4 => ?_
  refine CallsS.rdSl gz' fun p5 c5 e5 => ?_
  subst e0 e1 e2 e3 e4 e5
  have fx : ∀ {Bs : List Ent} [i1 : RdIn Bs (.slice p0 lx.length c0) Nat (cN .u16) lx] [i2 : RdIn Bs (.slice p1 lx'.length c1) Nat (cN .u16) lx'], CallsS Tryz.prog w0 19 [.agg #[.bool hx1, .slice p0 lx.length c0, .int .u16 (zx : Int), .bool hx1', .slice p1 lx'.length c1, .int .u16 (zx' : Int)]] Bs (FracT 40 Bs) :=
    fun {Bs} i1 i2 => @draftF_ok w0 Bs ⟨⟨hx1, .slice p0 lx.length c0, lx, zx⟩, ⟨hx1', .slice p1 lx'.length c1, lx', zx'⟩⟩ i1 i2 kx
  have sx : ∀ {Bs : List Ent} [i1 : RdIn Bs (.slice p0 lx.length c0) Nat (cN .u16) lx] [i2 : RdIn Bs (.slice p1 lx'.length c1) Nat (cN .u16) lx'], CallsS Tryz.prog w0 11 [.agg #[.bool hx1, .slice p0 lx.length c0, .int .u16 (zx : Int), .bool hx1', .slice p1 lx'.length c1, .int .u16 (zx' : Int)]] Bs (FracT 3 Bs) :=
    fun {Bs} i1 i2 => @shortF_ok w0 Bs ⟨⟨hx1, .slice p0 lx.length c0, lx, zx⟩, ⟨hx1', .slice p1 lx'.length c1, lx', zx'⟩⟩ i1 i2 kx
  have fy : ∀ {Bs : List Ent} [i1 : RdIn Bs (.slice p2 ly.length c2) Nat (cN .u16) ly] [i2 : RdIn Bs (.slice p3 ly'.length c3) Nat (cN .u16) ly'], CallsS Tryz.prog w0 19 [.agg #[.bool hy1, .slice p2 ly.length c2, .int .u16 (zy : Int), .bool hy1', .slice p3 ly'.length c3, .int .u16 (zy' : Int)]] Bs (FracT 40 Bs) :=
    fun {Bs} i1 i2 => @draftF_ok w0 Bs ⟨⟨hy1, .slice p2 ly.length c2, ly, zy⟩, ⟨hy1', .slice p3 ly'.length c3, ly', zy'⟩⟩ i1 i2 ky
  have uy : ∀ {Bs : List Ent} [i1 : RdIn Bs (.slice p2 ly.length c2) Nat (cN .u16) ly] [i2 : RdIn Bs (.slice p3 ly'.length c3) Nat (cN .u16) ly'], CallsS Tryz.prog w0 17 [.agg #[.bool hy1, .slice p2 ly.length c2, .int .u16 (zy : Int), .bool hy1', .slice p3 ly'.length c3, .int .u16 (zy' : Int)]] Bs (FracT 5 Bs) :=
    fun {Bs} i1 i2 => @unitF_ok w0 Bs ⟨⟨hy1, .slice p2 ly.length c2, ly, zy⟩, ⟨hy1', .slice p3 ly'.length c3, ly', zy'⟩⟩ i1 i2 ky
  have sz : ∀ {Bs : List Ent} [i1 : RdIn Bs (.slice p4 lz.length c4) Nat (cN .u16) lz] [i2 : RdIn Bs (.slice p5 lz'.length c5) Nat (cN .u16) lz'], CallsS Tryz.prog w0 11 [.agg #[.bool hz1, .slice p4 lz.length c4, .int .u16 (zz : Int), .bool hz1', .slice p5 lz'.length c5, .int .u16 (zz' : Int)]] Bs (FracT 3 Bs) :=
    fun {Bs} i1 i2 => @shortF_ok w0 Bs ⟨⟨hz1, .slice p4 lz.length c4, lz, zz⟩, ⟨hz1', .slice p5 lz'.length c5, lz', zz'⟩⟩ i1 i2 kz
  clear kx ky kz
  refine CallsS.of_tri Tryz.func5 rfl Tryz.ntmps5 rfl ?_
  show Tri _ _ _ _ (env0 0 [.agg #[.bool hx1, .slice p0 lx.length c0, .int .u16 (zx : Int), .bool hx1', .slice p1 lx'.length c1, .int .u16 (zx' : Int)], .agg #[.bool hy1, .slice p2 ly.length c2, .int .u16 (zy : Int), .bool hy1', .slice p3 ly'.length c3, .int .u16 (zy' : Int)], .agg #[.bool hz1, .slice p4 lz.length c4, .int .u16 (zz : Int), .bool hz1', .slice p5 lz'.length c5, .int .u16 (zz' : Int)]]) _ _
  (repeat' (first | (show TL _ _ _ _ (_ :: _) _ _ _; first | refine TL.sa ?_ | (refine TL.na ?_; intro _)) | (first | refine Stp.h ?_ | refine Post.then_normal ?_ | refine Post.next ?_ | refine Post.block_other rfl ?_) | refine Tri.ca ?_))
  rename_i b3 b4 b5
  refine TL.call rfl rfl rfl (works02_ok ht he hm) ?_
  rintro _ _ ⟨rfl, rfl⟩
  (repeat' (first | (show TL _ _ _ _ (_ :: _) _ _ _; first | refine TL.sa ?_ | (refine TL.na ?_; intro _)) | (first | refine Stp.h ?_ | refine Post.then_normal ?_ | refine Post.next ?_ | refine Post.block_other rfl ?_) | refine Tri.ca ?_))
  refine Tri.midB (fun e' As' => e' = [] ∧ As' = As) ?_ ?_
  · refine Tri.loop (ι := Nat) (fun k => k ≤ 2) (fun k => 2 - k) (fun k => [(3, .pointer (some ⟨b3, 0, none⟩)), (4, .pointer (some ⟨b4, 0, none⟩)), (5, .pointer (some ⟨b5, 0, none⟩)), (24, .int .i64 (k : Int))]) (fun _ => .cl b5 [.bool hz1, .slice p4 lz.length c4, .int .u16 (zz : Int), .bool hz1', .slice p5 lz'.length c5, .int .u16 (zz' : Int)] 30 :: .cl b4 [.bool hy1, .slice p2 ly.length c2, .int .u16 (zy : Int), .bool hy1', .slice p3 ly'.length c3, .int .u16 (zy' : Int)] 30 :: .cl b3 [.bool hx1, .slice p0 lx.length c0, .int .u16 (zx : Int), .bool hx1', .slice p1 lx'.length c1, .int .u16 (zx' : Int)] 30 :: As) 0 (by omega) (by (exact Sub.au)) (by (exact Ents.au)) ?_
    intro k hk
    by_cases hlt : (k : Int) < 2
    · (repeat' (first | (show TL _ _ _ _ (_ :: _) _ _ _; first | refine TL.sa ?_ | (refine TL.na ?_; intro _)) | (first | refine Stp.h ?_ | refine Post.then_normal ?_ | refine Post.next ?_ | refine Post.block_other rfl ?_) | refine Tri.ca ?_))
      refine Tri.mid (fun e' As' => ∃ (a b c : Rat) (b8 b9 b10 : Nat), Fit 40 a ∧ Fit 40 b ∧ Fit 3 c ∧ e' = [(3, .pointer (some ⟨b3, 0, none⟩)), (4, .pointer (some ⟨b4, 0, none⟩)), (5, .pointer (some ⟨b5, 0, none⟩)), (24, .int .i64 (k : Int)), (7, .int .i64 (k : Int)), (8, .pointer (some ⟨b8, 0, none⟩)), (9, .pointer (some ⟨b9, 0, none⟩)), (10, .pointer (some ⟨b10, 0, none⟩))] ∧
        As' = .cl b8 [.string ⟨(tN a).toArray⟩, .string ⟨(tD a).toArray⟩] 24 :: .cl b9 [.string ⟨(tN b).toArray⟩, .string ⟨(tD b).toArray⟩] 24 :: .cl b10 [.string ⟨(tN c).toArray⟩, .string ⟨(tD c).toArray⟩] 24 :: .cl b5 [.bool hz1, .slice p4 lz.length c4, .int .u16 (zz : Int), .bool hz1', .slice p5 lz'.length c5, .int .u16 (zz' : Int)] 30 :: .cl b4 [.bool hy1, .slice p2 ly.length c2, .int .u16 (zy : Int), .bool hy1', .slice p3 ly'.length c3, .int .u16 (zy' : Int)] 30 :: .cl b3 [.bool hx1, .slice p0 lx.length c0, .int .u16 (zx : Int), .bool hx1', .slice p1 lx'.length c1, .int .u16 (zx' : Int)] 30 :: As) ?_ ?_
      · refine Tri.dw [.cl b5 [.bool hz1, .slice p4 lz.length c4, .int .u16 (zz : Int), .bool hz1', .slice p5 lz'.length c5, .int .u16 (zz' : Int)] 30, .cl b4 [.bool hy1, .slice p2 ly.length c2, .int .u16 (zy : Int), .bool hy1', .slice p3 ly'.length c3, .int .u16 (zy' : Int)] 30, .cl b3 [.bool hx1, .slice p0 lx.length c0, .int .u16 (zx : Int), .bool hx1', .slice p1 lx'.length c1, .int .u16 (zx' : Int)] 30] [] (.take 0 (.take 2 (.take 4 (.all [(1, .all [(3, .all [(5, .all [(6, .all [(7, .all [(8, .all [(9, .all [(10, .all [(11, .done)])])])]), (8, .all [(7, .all [(9, .all [(10, .all [(11, .done)])])])])]), (7, .all [(6, .all [(8, .all [(9, .all [(10, .all [(11, .done)])])])]), (8, .all [(6, .all [(9, .all [(10, .all [(11, .done)])])])])]), (8, .all [(6, .all [(7, .all [(9, .all [(10, .all [(11, .done)])])])]), (7, .all [(6, .all [(9, .all [(10, .all [(11, .done)])])])])])]), (6, .all [(5, .all [(7, .all [(8, .all [(9, .all [(10, .all [(11, .done)])])])]), (8, .all [(7, .all [(9, .all [(10, .all [(11, .done)])])])])]), (7, .all [(5, .all [(8, .all [(9, .all [(10, .all [(11, .done)])])])]), (8, .all [(5, .all [(9, .all [(10, .all [(11, .done)])])])])]), (8, .all [(5, .all [(7, .all [(9, .all [(10, .all [(11, .done)])])])]), (7, .all [(5, .all [(9, .all [(10, .all [(11, .done)])])])])])]), (7, .all [(5, .all [(6, .all [(8, .all [(9, .all [(10, .all [(11, .done)])])])]), (8, .all [(6, .all [(9, .all [(10, .all [(11, .done)])])])])]), (6, .all [(5, .all [(8, .all [(9, .all [(10, .all [(11, .done)])])])]), (8, .all [(5, .all [(9, .all [(10, .all [(11, .done)])])])])]), (8, .all [(5, .all [(6, .all [(9, .all [(10, .all [(11, .done)])])])]), (6, .all [(5, .all [(9, .all [(10, .all [(11, .done)])])])])])]), (8, .all [(5, .all [(6, .all [(7, .all [(9, .all [(10, .all [(11, .done)])])])]), (7, .all [(6, .all [(9, .all [(10, .all [(11, .done)])])])])]), (6, .all [(5, .all [(7, .all [(9, .all [(10, .all [(11, .done)])])])]), (7, .all [(5, .all [(9, .all [(10, .all [(11, .done)])])])])]), (7, .all [(5, .all [(6, .all [(9, .all [(10, .all [(11, .done)])])])]), (6, .all [(5, .all [(9, .all [(10, .all [(11, .done)])])])])])])]), (6, .all [(3, .all [(5, .all [(7, .all [(8, .all [(9, .all [(10, .all [(11, .done)])])])]), (8, .all [(7, .all [(9, .all [(10, .all [(11, .done)])])])])]), (7, .all [(5, .all [(8, .all [(9, .all [(10, .all [(11, .done)])])])]), (8, .all [(5, .all [(9, .all [(10, .all [(11, .done)])])])])]), (8, .all [(5, .all [(7, .all [(9, .all [(10, .all [(11, .done)])])])]), (7, .all [(5, .all [(9, .all [(10, .all [(11, .done)])])])])])]), (7, .all [(3, .all [(5, .all [(8, .all [(9, .all [(10, .all [(11, .done)])])])]), (8, .all [(5, .all [(9, .all [(10, .all [(11, .done)])])])])]), (8, .all [(3, .all [(5, .all [(9, .all [(10, .all [(11, .done)])])])])])]), (8, .all [(3, .all [(5, .all [(7, .all [(9, .all [(10, .all [(11, .done)])])])]), (7, .all [(5, .all [(9, .all [(10, .all [(11, .done)])])])])]), (7, .all [(3, .all [(5, .all [(9, .all [(10, .all [(11, .done)])])])])])])]), (7, .all [(3, .all [(5, .all [(6, .all [(8, .all [(9, .all [(10, .all [(11, .done)])])])]), (8, .all [(6, .all [(9, .all [(10, .all [(11, .done)])])])])]), (6, .all [(5, .all [(8, .all [(9, .all [(10, .all [(11, .done)])])])]), (8, .all [(5, .all [(9, .all [(10, .all [(11, .done)])])])])]), (8, .all [(5, .all [(6, .all [(9, .all [(10, .all [(11, .done)])])])]), (6, .all [(5, .all [(9, .all [(10, .all [(11, .done)])])])])])]), (6, .all [(3, .all [(5, .all [(8, .all [(9, .all [(10, .all [(11, .done)])])])]), (8, .all [(5, .all [(9, .all [(10, .all [(11, .done)])])])])]), (8, .all [(3, .all [(5, .all [(9, .all [(10, .all [(11, .done)])])])])])]), (8, .all [(3, .all [(5, .all [(6, .all [(9, .all [(10, .all [(11, .done)])])])]), (6, .all [(5, .all [(9, .all [(10, .all [(11, .done)])])])])]), (6, .all [(3, .all [(5, .all [(9, .all [(10, .all [(11, .done)])])])])])])]), (8, .all [(3, .all [(5, .all [(6, .all [(7, .all [(9, .all [(10, .all [(11, .done)])])])]), (7, .all [(6, .all [(9, .all [(10, .all [(11, .done)])])])])]), (6, .all [(5, .all [(7, .all [(9, .all [(10, .all [(11, .done)])])])]), (7, .all [(5, .all [(9, .all [(10, .all [(11, .done)])])])])]), (7, .all [(5, .all [(6, .all [(9, .all [(10, .all [(11, .done)])])])]), (6, .all [(5, .all [(9, .all [(10, .all [(11, .done)])])])])])]), (6, .all [(3, .all [(5, .all [(7, .all [(9, .all [(10, .all [(11, .done)])])])]), (7, .all [(5, .all [(9, .all [(10, .all [(11, .done)])])])])]), (7, .all [(3, .all [(5, .all [(9, .all [(10, .all [(11, .done)])])])])])]), (7, .all [(3, .all [(5, .all [(6, .all [(9, .all [(10, .all [(11, .done)])])])]), (6, .all [(5, .all [(9, .all [(10, .all [(11, .done)])])])])]), (6, .all [(3, .all [(5, .all [(9, .all [(10, .all [(11, .done)])])])])])])])]), (6, .all [(1, .all [(3, .all [(5, .all [(7, .all [(8, .all [(9, .all [(10, .all [(11, .done)])])])]), (8, .all [(7, .all [(9, .all [(10, .all [(11, .done)])])])])]), (7, .all [(5, .all [(8, .all [(9, .all [(10, .all [(11, .done)])])])]), (8, .all [(5, .all [(9, .all [(10, .all [(11, .done)])])])])]), (8, .all [(5, .all [(7, .all [(9, .all [(10, .all [(11, .done)])])])]), (7, .all [(5, .all [(9, .all [(10, .all [(11, .done)])])])])])]), (7, .all [(3, .all [(5, .all [(8, .all [(9, .all [(10, .all [(11, .done)])])])]), (8, .all [(5, .all [(9, .all [(10, .all [(11, .done)])])])])]), (8, .all [(3, .all [(5, .all [(9, .all [(10, .all [(11, .done)])])])])])]), (8, .all [(3, .all [(5, .all [(7, .all [(9, .all [(10, .all [(11, .done)])])])]), (7, .all [(5, .all [(9, .all [(10, .all [(11, .done)])])])])]), (7, .all [(3, .all [(5, .all [(9, .all [(10, .all [(11, .done)])])])])])])]), (7, .all [(1, .all [(3, .all [(5, .all [(8, .all [(9, .all [(10, .all [(11, .done)])])])]), (8, .all [(5, .all [(9, .all [(10, .all [(11, .done)])])])])]), (8, .all [(3, .all [(5, .all [(9, .all [(10, .all [(11, .done)])])])])])]), (8, .all [(1, .all [(3, .all [(5, .all [(9, .all [(10, .all [(11, .done)])])])])])])]), (8, .all [(1, .all [(3, .all [(5, .all [(7, .all [(9, .all [(10, .all [(11, .done)])])])]), (7, .all [(5, .all [(9, .all [(10, .all [(11, .done)])])])])]), (7, .all [(3, .all [(5, .all [(9, .all [(10, .all [(11, .done)])])])])])]), (7, .all [(1, .all [(3, .all [(5, .all [(9, .all [(10, .all [(11, .done)])])])])])])])]), (7, .all [(1, .all [(3, .all [(5, .all [(6, .all [(8, .all [(9, .all [(10, .all [(11, .done)])])])]), (8, .all [(6, .all [(9, .all [(10, .all [(11, .done)])])])])]), (6, .all [(5, .all [(8, .all [(9, .all [(10, .all [(11, .done)])])])]), (8, .all [(5, .all [(9, .all [(10, .all [(11, .done)])])])])]), (8, .all [(5, .all [(6, .all [(9, .all [(10, .all [(11, .done)])])])]), (6, .all [(5, .all [(9, .all [(10, .all [(11, .done)])])])])])]), (6, .all [(3, .all [(5, .all [(8, .all [(9, .all [(10, .all [(11, .done)])])])]), (8, .all [(5, .all [(9, .all [(10, .all [(11, .done)])])])])]), (8, .all [(3, .all [(5, .all [(9, .all [(10, .all [(11, .done)])])])])])]), (8, .all [(3, .all [(5, .all [(6, .all [(9, .all [(10, .all [(11, .done)])])])]), (6, .all [(5, .all [(9, .all [(10, .all [(11, .done)])])])])]), (6, .all [(3, .all [(5, .all [(9, .all [(10, .all [(11, .done)])])])])])])]), (6, .all [(1, .all [(3, .all [(5, .all [(8, .all [(9, .all [(10, .all [(11, .done)])])])]), (8, .all [(5, .all [(9, .all [(10, .all [(11, .done)])])])])]), (8, .all [(3, .all [(5, .all [(9, .all [(10, .all [(11, .done)])])])])])]), (8, .all [(1, .all [(3, .all [(5, .all [(9, .all [(10, .all [(11, .done)])])])])])])]), (8, .all [(1, .all [(3, .all [(5, .all [(6, .all [(9, .all [(10, .all [(11, .done)])])])]), (6, .all [(5, .all [(9, .all [(10, .all [(11, .done)])])])])]), (6, .all [(3, .all [(5, .all [(9, .all [(10, .all [(11, .done)])])])])])]), (6, .all [(1, .all [(3, .all [(5, .all [(9, .all [(10, .all [(11, .done)])])])])])])])]), (8, .all [(1, .all [(3, .all [(5, .all [(6, .all [(7, .all [(9, .all [(10, .all [(11, .done)])])])]), (7, .all [(6, .all [(9, .all [(10, .all [(11, .done)])])])])]), (6, .all [(5, .all [(7, .all [(9, .all [(10, .all [(11, .done)])])])]), (7, .all [(5, .all [(9, .all [(10, .all [(11, .done)])])])])]), (7, .all [(5, .all [(6, .all [(9, .all [(10, .all [(11, .done)])])])]), (6, .all [(5, .all [(9, .all [(10, .all [(11, .done)])])])])])]), (6, .all [(3, .all [(5, .all [(7, .all [(9, .all [(10, .all [(11, .done)])])])]), (7, .all [(5, .all [(9, .all [(10, .all [(11, .done)])])])])]), (7, .all [(3, .all [(5, .all [(9, .all [(10, .all [(11, .done)])])])])])]), (7, .all [(3, .all [(5, .all [(6, .all [(9, .all [(10, .all [(11, .done)])])])]), (6, .all [(5, .all [(9, .all [(10, .all [(11, .done)])])])])]), (6, .all [(3, .all [(5, .all [(9, .all [(10, .all [(11, .done)])])])])])])]), (6, .all [(1, .all [(3, .all [(5, .all [(7, .all [(9, .all [(10, .all [(11, .done)])])])]), (7, .all [(5, .all [(9, .all [(10, .all [(11, .done)])])])])]), (7, .all [(3, .all [(5, .all [(9, .all [(10, .all [(11, .done)])])])])])]), (7, .all [(1, .all [(3, .all [(5, .all [(9, .all [(10, .all [(11, .done)])])])])])])]), (7, .all [(1, .all [(3, .all [(5, .all [(6, .all [(9, .all [(10, .all [(11, .done)])])])]), (6, .all [(5, .all [(9, .all [(10, .all [(11, .done)])])])])]), (6, .all [(3, .all [(5, .all [(9, .all [(10, .all [(11, .done)])])])])])]), (6, .all [(1, .all [(3, .all [(5, .all [(9, .all [(10, .all [(11, .done)])])])])])])])])])))) ?_
        (repeat' (first | (show TL _ _ _ _ (_ :: _) _ _ _; first | refine TL.sa ?_ | (refine TL.na ?_; intro _)) | (first | refine Stp.h ?_ | refine Post.then_normal ?_ | refine Post.next ?_ | refine Post.block_other rfl ?_) | (show TT _ _ _ _ _ _ _ _ _; refine TT.sa ?_) | exact TTs.nil | refine TTs.cons ?_ ?_ | (show T1 _ _ _ _ _ _ _ _ _ _; first | refine T1.sa ?_ | (refine T1.na ?_; intro _)) | (show TC _ _ _ _ _ _ _ _ _ _; first | refine TC.goa ?_ | refine TC.fina ?_) | refine Tri.ca ?_))
        iterate 3
          all_goals
            first
              | (refine T1.callv rfl rfl rfl rfl rfl fx ?_
                 rintro _ _ ⟨a, ha, rfl, rfl⟩)
              | (refine T1.callv rfl rfl rfl rfl rfl fy ?_
                 rintro _ _ ⟨b, hb, rfl, rfl⟩)
              | (refine T1.callv rfl rfl rfl rfl rfl sz ?_
                 rintro _ _ ⟨c, hc, rfl, rfl⟩)
            (repeat' (first | (show TL _ _ _ _ (_ :: _) _ _ _; first | refine TL.sa ?_ | (refine TL.na ?_; intro _)) | (first | refine Stp.h ?_ | refine Post.then_normal ?_ | refine Post.next ?_ | refine Post.block_other rfl ?_) | (show TT _ _ _ _ _ _ _ _ _; refine TT.sa ?_) | exact TTs.nil | refine TTs.cons ?_ ?_ | (show T1 _ _ _ _ _ _ _ _ _ _; first | refine T1.sa ?_ | (refine T1.na ?_; intro _)) | (show TC _ _ _ _ _ _ _ _ _ _; first | refine TC.goa ?_ | refine TC.fina ?_) | refine Tri.ca ?_))
        all_goals exact Post.cut _ _ ⟨a, b, c, _, _, _, ha, hb, hc, rfl, rfl⟩ (by (exact Sub.au)) (by (exact Ents.au))
      rintro _ _ ⟨a, b, c, b8, b9, b10, ha, hb, hc, rfl, rfl⟩
      (repeat' (first | (show TL _ _ _ _ (_ :: _) _ _ _; first | refine TL.sa ?_ | (refine TL.na ?_; intro _)) | (first | refine Stp.h ?_ | refine Post.then_normal ?_ | refine Post.next ?_ | refine Post.block_other rfl ?_) | (show TT _ _ _ _ _ _ _ _ _; refine TT.sa ?_) | exact TTs.nil | refine TTs.cons ?_ ?_ | (show T1 _ _ _ _ _ _ _ _ _ _; first | refine T1.sa ?_ | (refine T1.na ?_; intro _)) | (show TC _ _ _ _ _ _ _ _ _ _; first | refine TC.goa ?_ | refine TC.fina ?_) | refine Tri.ca ?_))
      refine Tri.mid (fun e' As' => ∃ (a b : Rat), Fit 40 a ∧ Fit 40 b ∧ e' = [(3, .pointer (some ⟨b3, 0, none⟩)), (4, .pointer (some ⟨b4, 0, none⟩)), (5, .pointer (some ⟨b5, 0, none⟩)), (24, .int .i64 (k : Int)), (8, .pointer (some ⟨b8, 0, none⟩)), (9, .pointer (some ⟨b9, 0, none⟩)), (10, .pointer (some ⟨b10, 0, none⟩))] ∧
        As' = .cl b8 [.string ⟨(tN a).toArray⟩, .string ⟨(tD a).toArray⟩] 24 :: .cl b9 [.string ⟨(tN b).toArray⟩, .string ⟨(tD b).toArray⟩] 24 :: .cl b10 [.string ⟨(tN c).toArray⟩, .string ⟨(tD c).toArray⟩] 24 :: .cl b5 [.bool hz1, .slice p4 lz.length c4, .int .u16 (zz : Int), .bool hz1', .slice p5 lz'.length c5, .int .u16 (zz' : Int)] 30 :: .cl b4 [.bool hy1, .slice p2 ly.length c2, .int .u16 (zy : Int), .bool hy1', .slice p3 ly'.length c3, .int .u16 (zy' : Int)] 30 :: .cl b3 [.bool hx1, .slice p0 lx.length c0, .int .u16 (zx : Int), .bool hx1', .slice p1 lx'.length c1, .int .u16 (zx' : Int)] 30 :: As) ?_ ?_
      · by_cases hk1 : (k : Int) = 1
        · (repeat' (first | (show TL _ _ _ _ (_ :: _) _ _ _; first | refine TL.sa ?_ | (refine TL.na ?_; intro _)) | (first | refine Stp.h ?_ | refine Post.then_normal ?_ | refine Post.next ?_ | refine Post.block_other rfl ?_) | (show TT _ _ _ _ _ _ _ _ _; refine TT.sa ?_) | exact TTs.nil | refine TTs.cons ?_ ?_ | (show T1 _ _ _ _ _ _ _ _ _ _; first | refine T1.sa ?_ | (refine T1.na ?_; intro _)) | (show TC _ _ _ _ _ _ _ _ _ _; first | refine TC.goa ?_ | refine TC.fina ?_) | refine Tri.ca ?_))
          refine Tri.dw [.cl b5 [.bool hz1, .slice p4 lz.length c4, .int .u16 (zz : Int), .bool hz1', .slice p5 lz'.length c5, .int .u16 (zz' : Int)] 30, .cl b4 [.bool hy1, .slice p2 ly.length c2, .int .u16 (zy : Int), .bool hy1', .slice p3 ly'.length c3, .int .u16 (zy' : Int)] 30, .cl b3 [.bool hx1, .slice p0 lx.length c0, .int .u16 (zx : Int), .bool hx1', .slice p1 lx'.length c1, .int .u16 (zx' : Int)] 30] [] (.take 0 (.take 2 (.all [(1, .all [(3, .all [(4, .all [(5, .done)])])])]))) ?_
          (repeat' (first | (show TL _ _ _ _ (_ :: _) _ _ _; first | refine TL.sa ?_ | (refine TL.na ?_; intro _)) | (first | refine Stp.h ?_ | refine Post.then_normal ?_ | refine Post.next ?_ | refine Post.block_other rfl ?_) | (show TT _ _ _ _ _ _ _ _ _; refine TT.sa ?_) | exact TTs.nil | refine TTs.cons ?_ ?_ | (show T1 _ _ _ _ _ _ _ _ _ _; first | refine T1.sa ?_ | (refine T1.na ?_; intro _)) | (show TC _ _ _ _ _ _ _ _ _ _; first | refine TC.goa ?_ | refine TC.fina ?_) | refine Tri.ca ?_))
          iterate 2
            all_goals
              first
                | (refine T1.callv rfl rfl rfl rfl rfl sx ?_
                   rintro _ _ ⟨a1, ha1, rfl, rfl⟩)
                | (refine T1.callv rfl rfl rfl rfl rfl uy ?_
                   rintro _ _ ⟨b1, hb1, rfl, rfl⟩)
              (repeat' (first | (show TL _ _ _ _ (_ :: _) _ _ _; first | refine TL.sa ?_ | (refine TL.na ?_; intro _)) | (first | refine Stp.h ?_ | refine Post.then_normal ?_ | refine Post.next ?_ | refine Post.block_other rfl ?_) | (show TT _ _ _ _ _ _ _ _ _; refine TT.sa ?_) | exact TTs.nil | refine TTs.cons ?_ ?_ | (show T1 _ _ _ _ _ _ _ _ _ _; first | refine T1.sa ?_ | (refine T1.na ?_; intro _)) | (show TC _ _ _ _ _ _ _ _ _ _; first | refine TC.goa ?_ | refine TC.fina ?_) | refine Tri.ca ?_))
          all_goals exact Post.cut _ _ ⟨a1, b1, ha1.mono (by decide), hb1.mono (by decide), rfl, rfl⟩ (by (exact Sub.au)) (by (exact Ents.au))
        · (repeat' (first | (show TL _ _ _ _ (_ :: _) _ _ _; first | refine TL.sa ?_ | (refine TL.na ?_; intro _)) | (first | refine Stp.h ?_ | refine Post.then_normal ?_ | refine Post.next ?_ | refine Post.block_other rfl ?_) | (show TT _ _ _ _ _ _ _ _ _; refine TT.sa ?_) | exact TTs.nil | refine TTs.cons ?_ ?_ | (show T1 _ _ _ _ _ _ _ _ _ _; first | refine T1.sa ?_ | (refine T1.na ?_; intro _)) | (show TC _ _ _ _ _ _ _ _ _ _; first | refine TC.goa ?_ | refine TC.fina ?_) | refine Tri.ca ?_))
          exact Post.cut _ _ ⟨a, b, ha, hb, rfl, rfl⟩ (by (exact Sub.au)) (by (exact Ents.au))
      clear ha hb
      rintro _ _ ⟨a, b, ha, hb, rfl, rfl⟩
      clear fx fy sz sx uy
      have ha6 : Fit 600 a := ha.mono (by decide)
      have hb6 : Fit 600 b := hb.mono (by decide)
      have hc6 : Fit 600 c := hc.mono (by decide)
      obtain ⟨S, hS⟩ : ∃ S, S = a + b := ⟨_, rfl⟩
      have fS : Fit 81 S := by rw [hS]; exact ha.add hb
      have hS6 : Fit 600 S := fS.mono (by decide)
      obtain ⟨P, hP⟩ : ∃ P, P = a * c := ⟨_, rfl⟩
      have fP : Fit 43 P := by rw [hP]; exact ha.mul hc
      obtain ⟨R, hR⟩ : ∃ R, R = b * c := ⟨_, rfl⟩
      have fR : Fit 43 R := by rw [hR]; exact hb.mul hc
      obtain ⟨M, hM⟩ : ∃ M, M = c * S := ⟨_, rfl⟩
      have fM : Fit 84 M := by rw [hM]; exact hc.mul fS
      have hba : b + a = S := by rw [hS, Rat.add_comm]
      have hback : S - b = a := by rw [hS, rat_back]
      have hPR : P + R = M := by rw [hP, hR, hM, hS, Rat.mul_comm c, Rat.add_mul]
      have q1 : tN S = tN S ∧ tD S = tD S := ⟨rfl, rfl⟩
      have q2 : tN a = tN a ∧ tD a = tD a := ⟨rfl, rfl⟩
      have q3 : tN M = tN M ∧ tD M = tD M := ⟨rfl, rfl⟩
      (repeat' (first | (show TL _ _ _ _ (_ :: _) _ _ _; first | refine TL.sa ?_ | (refine TL.na ?_; intro _)) | (first | refine Stp.h ?_ | refine Post.then_normal ?_ | refine Post.next ?_ | refine Post.block_other rfl ?_) | refine Tri.ca ?_))
      refine TL.callv rfl rfl rfl rfl (addT_ok ht (r := a) (s := b) ha6 hb6 (by rw [← hS]; exact hS6)) ?_
      rw [← hS]
      rintro _ _ ⟨rfl, rfl⟩
      (repeat' (first | (show TL _ _ _ _ (_ :: _) _ _ _; first | refine TL.sa ?_ | (refine TL.na ?_; intro _)) | (first | refine Stp.h ?_ | refine Post.then_normal ?_ | refine Post.next ?_ | refine Post.block_other rfl ?_) | refine Tri.ca ?_))
      refine TL.callv rfl rfl rfl rfl (addT_ok ht (r := b) (s := a) hb6 ha6 (by rw [hba]; exact hS6)) ?_
      rw [hba]
      rintro _ _ ⟨rfl, rfl⟩
      (repeat' (first | (show TL _ _ _ _ (_ :: _) _ _ _; first | refine TL.sa ?_ | (refine TL.na ?_; intro _)) | (first | refine Stp.h ?_ | refine Post.then_normal ?_ | refine Post.next ?_ | refine Post.block_other rfl ?_) | refine Tri.ca ?_))
      refine TL.callv rfl rfl rfl rfl (subT_ok ht (r := S) (s := b) hS6 hb6 (by rw [hback]; exact ha6)) ?_
      rw [hback]
      rintro _ _ ⟨rfl, rfl⟩
      (repeat' (first | (show TL _ _ _ _ (_ :: _) _ _ _; first | refine TL.sa ?_ | (refine TL.na ?_; intro _)) | (first | refine Stp.h ?_ | refine Post.then_normal ?_ | refine Post.next ?_ | refine Post.block_other rfl ?_) | refine Tri.ca ?_))
      refine TL.f rfl rfl (ExF.neqFr rfl rfl) ?_
      (repeat' (first | (show TL _ _ _ _ (_ :: _) _ _ _; first | refine TL.sa ?_ | (refine TL.na ?_; intro _)) | (first | refine Stp.h ?_ | refine Post.then_normal ?_ | refine Post.next ?_ | refine Post.block_other rfl ?_) | refine Tri.ca ?_))
      refine TL.f rfl rfl (ExF.neqFr rfl rfl) ?_
      (repeat' (first | (show TL _ _ _ _ (_ :: _) _ _ _; first | refine TL.sa ?_ | (refine TL.na ?_; intro _)) | (first | refine Stp.h ?_ | refine Post.then_normal ?_ | refine Post.next ?_ | refine Post.block_other rfl ?_) | refine Tri.ca ?_))
      refine TL.callv rfl rfl rfl rfl (checkT_ok (r := S) hS6) ?_
      rintro _ _ ⟨rfl, rfl⟩
      (repeat' (first | (show TL _ _ _ _ (_ :: _) _ _ _; first | refine TL.sa ?_ | (refine TL.na ?_; intro _)) | (first | refine Stp.h ?_ | refine Post.then_normal ?_ | refine Post.next ?_ | refine Post.block_other rfl ?_) | refine Tri.ca ?_))
      refine TL.callv rfl rfl rfl rfl (mulT_ok ht (r := a) (s := c) ha6 hc6 (by rw [← hP]; exact fP.mono (by decide))) ?_
      rw [← hP]
      rintro _ _ ⟨rfl, rfl⟩
      (repeat' (first | (show TL _ _ _ _ (_ :: _) _ _ _; first | refine TL.sa ?_ | (refine TL.na ?_; intro _)) | (first | refine Stp.h ?_ | refine Post.then_normal ?_ | refine Post.next ?_ | refine Post.block_other rfl ?_) | refine Tri.ca ?_))
      refine TL.callv rfl rfl rfl rfl (mulT_ok ht (r := b) (s := c) hb6 hc6 (by rw [← hR]; exact fR.mono (by decide))) ?_
      rw [← hR]
      rintro _ _ ⟨rfl, rfl⟩
      (repeat' (first | (show TL _ _ _ _ (_ :: _) _ _ _; first | refine TL.sa ?_ | (refine TL.na ?_; intro _)) | (first | refine Stp.h ?_ | refine Post.then_normal ?_ | refine Post.next ?_ | refine Post.block_other rfl ?_) | refine Tri.ca ?_))
      refine TL.callv rfl rfl rfl rfl (mulT_ok ht (r := c) (s := S) hc6 hS6 (by rw [← hM]; exact fM.mono (by decide))) ?_
      rw [← hM]
      rintro _ _ ⟨rfl, rfl⟩
      (repeat' (first | (show TL _ _ _ _ (_ :: _) _ _ _; first | refine TL.sa ?_ | (refine TL.na ?_; intro _)) | (first | refine Stp.h ?_ | refine Post.then_normal ?_ | refine Post.next ?_ | refine Post.block_other rfl ?_) | refine Tri.ca ?_))
      refine TL.callv rfl rfl rfl rfl (addT_ok ht (r := P) (s := R) (fP.mono (by decide)) (fR.mono (by decide)) (by rw [hPR]; exact fM.mono (by decide))) ?_
      rw [hPR]
      rintro _ _ ⟨rfl, rfl⟩
      (repeat' (first | (show TL _ _ _ _ (_ :: _) _ _ _; first | refine TL.sa ?_ | (refine TL.na ?_; intro _)) | (first | refine Stp.h ?_ | refine Post.then_normal ?_ | refine Post.next ?_ | refine Post.block_other rfl ?_) | refine Tri.ca ?_))
      refine TL.f rfl rfl (ExF.neqFr rfl rfl) ?_
      (repeat' (first | (show TL _ _ _ _ (_ :: _) _ _ _; first | refine TL.sa ?_ | (refine TL.na ?_; intro _)) | (first | refine Stp.h ?_ | refine Post.then_normal ?_ | refine Post.next ?_ | refine Post.block_other rfl ?_) | refine Tri.ca ?_))
      refine TL.callv rfl rfl rfl rfl (checkT_ok (r := P) (fP.mono (by decide))) ?_
      rintro _ _ ⟨rfl, rfl⟩
      (repeat' (first | (show TL _ _ _ _ (_ :: _) _ _ _; first | refine TL.sa ?_ | (refine TL.na ?_; intro _)) | (first | refine Stp.h ?_ | refine Post.then_normal ?_ | refine Post.next ?_ | refine Post.block_other rfl ?_) | refine Tri.ca ?_))
      by_cases hc0 : c = 0
      · have hz : tN c = [48] := (tN_zero hc6).2 hc0
        refine TL.callv rfl rfl rfl rfl (div0T_ok ht (r := P) (s := c) (fP.mono (by decide)) hc6 hc0) ?_
        rintro _ _ ⟨rfl, rfl⟩
        (repeat' (first | (show TL _ _ _ _ (_ :: _) _ _ _; first | refine TL.sa ?_ | (refine TL.na ?_; intro _)) | (first | refine Stp.h ?_ | refine Post.then_normal ?_ | refine Post.next ?_ | refine Post.block_other rfl ?_) | refine Tri.ca ?_))
        refine Tri.dr (.take 1 (.take 2 (.all [(0, .all [(3, .take 4 (.done))])]))) ?_
        (repeat' (first | (show TL _ _ _ _ (_ :: _) _ _ _; first | refine TL.sa ?_ | (refine TL.na ?_; intro _)) | (first | refine Stp.h ?_ | refine Post.then_normal ?_ | refine Post.next ?_ | refine Post.block_other rfl ?_) | (show TT _ _ _ _ _ _ _ _ _; refine TT.sa ?_) | exact TTs.nil | refine TTs.cons ?_ ?_ | (show T1 _ _ _ _ _ _ _ _ _ _; first | refine T1.sa ?_ | (refine T1.na ?_; intro _)) | (show TC _ _ _ _ _ _ _ _ _ _; first | refine TC.goa ?_ | refine TC.fina ?_) | refine Tri.ca ?_))
        all_goals
          refine T1.callv rfl rfl rfl rfl rfl (fails_ok (n := 7)) ?_
          rintro _ _ ⟨bF, rfl, rfl⟩
          (repeat' (first | (show TL _ _ _ _ (_ :: _) _ _ _; first | refine TL.sa ?_ | (refine TL.na ?_; intro _)) | (first | refine Stp.h ?_ | refine Post.then_normal ?_ | refine Post.next ?_ | refine Post.block_other rfl ?_) | (show TT _ _ _ _ _ _ _ _ _; refine TT.sa ?_) | exact TTs.nil | refine TTs.cons ?_ ?_ | (show T1 _ _ _ _ _ _ _ _ _ _; first | refine T1.sa ?_ | (refine T1.na ?_; intro _)) | (show TC _ _ _ _ _ _ _ _ _ _; first | refine TC.goa ?_ | refine TC.fina ?_) | refine Tri.ca ?_))
        all_goals
          refine T1.callv rfl rfl rfl rfl rfl (failsEnd_ok (n := 7) (b := bF)) ?_
          rintro _ _ ⟨rfl, rfl⟩
          (repeat' (first | (show TL _ _ _ _ (_ :: _) _ _ _; first | refine TL.sa ?_ | (refine TL.na ?_; intro _)) | (first | refine Stp.h ?_ | refine Post.then_normal ?_ | refine Post.next ?_ | refine Post.block_other rfl ?_) | (show TT _ _ _ _ _ _ _ _ _; refine TT.sa ?_) | exact TTs.nil | refine TTs.cons ?_ ?_ | (show T1 _ _ _ _ _ _ _ _ _ _; first | refine T1.sa ?_ | (refine T1.na ?_; intro _)) | (show TC _ _ _ _ _ _ _ _ _ _; first | refine TC.goa ?_ | refine TC.fina ?_) | refine Tri.ca ?_))
        all_goals exact Post.round (k + 1) (by omega) (by omega) (by (exact Sub.au)) (by (exact Ents.au))
      · have hz : ¬ tN c = [48] := fun h => hc0 ((tN_zero hc6).1 h)
        have hun : P * c⁻¹ = a := by rw [hP, rat_undo hc0]
        refine TL.callv rfl rfl rfl rfl (divT_ok ht (r := P) (s := c) (fP.mono (by decide)) hc6 hc0 (by rw [hun]; exact ha6)) ?_
        rw [hun]
        rintro _ _ ⟨rfl, rfl⟩
        (repeat' (first | (show TL _ _ _ _ (_ :: _) _ _ _; first | refine TL.sa ?_ | (refine TL.na ?_; intro _)) | (first | refine Stp.h ?_ | refine Post.then_normal ?_ | refine Post.next ?_ | refine Post.block_other rfl ?_) | (show TT _ _ _ _ _ _ _ _ _; refine TT.sa ?_) | exact TTs.nil | refine TTs.cons ?_ ?_ | (show T1 _ _ _ _ _ _ _ _ _ _; first | refine T1.sa ?_ | (refine T1.na ?_; intro _)) | (show TC _ _ _ _ _ _ _ _ _ _; first | refine TC.goa ?_ | refine TC.fina ?_) | refine Tri.ca ?_))
        refine TL.f rfl rfl (ExF.neqFr rfl rfl) ?_
        (repeat' (first | (show TL _ _ _ _ (_ :: _) _ _ _; first | refine TL.sa ?_ | (refine TL.na ?_; intro _)) | (first | refine Stp.h ?_ | refine Post.then_normal ?_ | refine Post.next ?_ | refine Post.block_other rfl ?_) | (show TT _ _ _ _ _ _ _ _ _; refine TT.sa ?_) | exact TTs.nil | refine TTs.cons ?_ ?_ | (show T1 _ _ _ _ _ _ _ _ _ _; first | refine T1.sa ?_ | (refine T1.na ?_; intro _)) | (show TC _ _ _ _ _ _ _ _ _ _; first | refine TC.goa ?_ | refine TC.fina ?_) | refine Tri.ca ?_))
        exact Post.round (k + 1) (by omega) (by omega) (by (exact Sub.au)) (by (exact Ents.au))
    · (repeat' (first | (show TL _ _ _ _ (_ :: _) _ _ _; first | refine TL.sa ?_ | (refine TL.na ?_; intro _)) | (first | refine Stp.h ?_ | refine Post.then_normal ?_ | refine Post.next ?_ | refine Post.block_other rfl ?_) | (show TT _ _ _ _ _ _ _ _ _; refine TT.sa ?_) | exact TTs.nil | refine TTs.cons ?_ ?_ | (show T1 _ _ _ _ _ _ _ _ _ _; first | refine T1.sa ?_ | (refine T1.na ?_; intro _)) | (show TC _ _ _ _ _ _ _ _ _ _; first | refine TC.goa ?_ | refine TC.fina ?_) | refine Tri.ca ?_))
      exact Post.cut _ _ ⟨rfl, rfl⟩ (by (exact Sub.au)) (by (exact Ents.au))
  rintro _ _ ⟨rfl, rfl⟩
  (repeat' (first | (show TL _ _ _ _ (_ :: _) _ _ _; first | refine TL.sa ?_ | (refine TL.na ?_; intro _)) | (first | refine Stp.h ?_ | refine Post.then_normal ?_ | refine Post.next ?_ | refine Post.block_other rfl ?_) | (show TT _ _ _ _ _ _ _ _ _; refine TT.sa ?_) | exact TTs.nil | refine TTs.cons ?_ ?_ | (show T1 _ _ _ _ _ _ _ _ _ _; first | refine T1.sa ?_ | (refine T1.na ?_; intro _)) | (show TC _ _ _ _ _ _ _ _ _ _; first | refine TC.goa ?_ | refine TC.fina ?_) | refine Tri.ca ?_))
  (refine Post.ra ?_)
  exact ⟨[], rfl, Ents.of_cov inferInstance⟩
end Go.Proofs.YtldljckhfcoafaaGreatDoor.Q
