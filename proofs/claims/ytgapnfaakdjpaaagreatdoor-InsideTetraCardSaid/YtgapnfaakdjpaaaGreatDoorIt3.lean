/- Walks: InsideTetra. -/
import Derived.Test.YtgapnfaakdjpaaaGreatDoorIt5
import Derived.Test.YtgapnfaakdjpaaaGreatDoorIt4
namespace Go.Sx
def sideAt (V d1 d2 d3 d4:Int):Nat→Int
  | 0=>2
  | 1=>stepS V d1 2
  | 2=>stepS V d2 (stepS V d1 2)
  | 3=>stepS V d3 (stepS V d2 (stepS V d1 2))
  | _=>sideS V d1 d2 d3 d4
end Go.Sx
namespace Go.Proofs.YtgapnfaakdjpaaaGreatDoor
open Go Go.Sx
variable {w0:World} {As:List Ent}
theorem wmul {u x:Int} (hu:0≤u) (hx:-100000≤x∧x≤100000):-(100000 * u)≤u * x∧u * x≤100000 * u:=by
  have h1:=Int.mul_le_mul_of_nonneg_left hx.1 hu
  have h2:=Int.mul_le_mul_of_nonneg_left hx.2 hu
  omega
def mx1 (S:Int):Int:=if S < 1 then 1 else S
theorem quo36 {n M:Int} (h1:1≤M) (h:-(100000 * M)≤n∧n≤100000 * M):-100000≤n.tdiv M∧n.tdiv M≤100000:=by
  have key:∀ k:Int,0≤k→k≤100000 * M→0≤k / M∧k / M≤100000:=fun k h0 hk=>⟨Int.ediv_nonneg h0 (by omega),Int.ediv_le_of_le_mul (by omega) hk⟩
  rcases Int.le_total 0 n with q|q
  · rw [Int.tdiv_eq_ediv_of_nonneg q]
    have:=key n q h.2
    omega
  · have:=key (-n) (by omega) (by omega)
    rw [← Int.neg_neg n,Int.neg_tdiv,Int.tdiv_eq_ediv_of_nonneg (by omega:0≤-n)]
    omega
set_option maxRecDepth 100000 in
set_option maxHeartbeats 8000000 in
theorem insideTetra_ok (ht:Tab w0) {a0 a1 a2 a3 a4 a5 a6 a7 a8 a9 a10 a11 u0 u1 u2 u3 o0 o1 o2:Int} (h:∀ a∈[a0,a1,a2,a3,a4,a5,a6,a7,a8,a9,a10,a11],-2147483648≤a∧a≤2147483647)
    (hu:∀ a∈[u0,u1,u2,u3],0≤a∧a≤255) (ho:∀ a∈[o0,o1,o2],-128≤a∧a≤127) :
    CallsS Tryz.prog w0 5 [.agg #[.int .i32 a0,.int .i32 a1,.int .i32 a2,.int .i32 a3,.int .i32 a4,.int .i32 a5,.int .i32 a6,.int .i32 a7,.int .i32 a8,.int .i32 a9,.int .i32 a10,.int .i32 a11],.agg #[.int .u8 u0,.int .u8 u1,.int .u8 u2,.int .u8 u3],.agg #[.int .i8 o0,.int .i8 o1,.int .i8 o2]] As fun u _=>u=.bool true:=by
  have g0:=h a0 (by simp)
  have g1:=h a1 (by simp)
  have g2:=h a2 (by simp)
  have g3:=h a3 (by simp)
  have g4:=h a4 (by simp)
  have g5:=h a5 (by simp)
  have g6:=h a6 (by simp)
  have g7:=h a7 (by simp)
  have g8:=h a8 (by simp)
  have g9:=h a9 (by simp)
  have g10:=h a10 (by simp)
  have g11:=h a11 (by simp)
  have v0:=hu u0 (by simp)
  have v1:=hu u1 (by simp)
  have v2:=hu u2 (by simp)
  have v3:=hu u3 (by simp)
  have s0:=ho o0 (by simp)
  have s1:=ho o1 (by simp)
  have s2:=ho o2 (by simp)
  clear h hu ho
  refine CallsS.of_tri Tryz.func5 rfl Tryz.ntmps5 rfl ?_
  (repeat' first|(refine Ka ?_;first|refine Kb ?_|(refine Kc ?_;intro _))|refine Kd ?_|refine Ke ?_|refine Kf ?_|refine Kg rfl ?_|refine Kh ?_)
  refine TL.call rfl rfl rfl (works36_ok ht) ?_
  rintro _ _ ⟨rfl,rfl⟩
  (repeat' first|(refine Ka ?_;first|refine Kb ?_|(refine Kc ?_;intro _))|refine Kd ?_|refine Ke ?_|refine Kf ?_|refine Kg rfl ?_|refine Kh ?_)
  refine TL.call rfl rfl rfl tetra36_ok ?_
  rintro _ _ ⟨bp,bf,rfl,rfl⟩
  rw [show tetP=[⟨0,0,0⟩,⟨1000,0,0⟩,⟨0,1000,0⟩,⟨0,0,1000⟩] from rfl]
  (repeat' first|(refine Ka ?_;first|refine Kb ?_|(refine Kc ?_;intro _))|refine Kd ?_|refine Ke ?_|refine Kf ?_|refine Kg rfl ?_|refine Kh ?_)
  rename_i b3 b4 b5 b7
  refine Tri.unroll 5 ?_
  (repeat' first|(refine Ka ?_;first|refine Kb ?_|(refine Kc ?_;intro _))|refine Kd ?_|refine Ke ?_|refine Kf ?_|refine Kg rfl ?_|refine Kh ?_)
  iterate 4
    refine Tri.unroll 4 ?_
    (repeat' first|(refine Ka ?_;first|refine Kb ?_|(refine Kc ?_;intro _))|refine Kd ?_|refine Ke ?_|refine Kf ?_|refine Kg rfl ?_|(refine Ki ?_;refine Kj ?_)|exact Kk|refine Kl ?_ ?_|(refine Km ?_;first|refine Kn ?_|(refine Ko ?_;intro _))|(refine Kp ?_;first|refine Kq ?_|refine Kr ?_)|refine Kh ?_)
  simp only [List.set_cons_zero,List.set_cons_succ]
  have r0:=rem36_in a0
  have r1:=rem36_in a1
  have r2:=rem36_in a2
  have r3:=rem36_in a3
  have r4:=rem36_in a4
  have r5:=rem36_in a5
  have r6:=rem36_in a6
  have r7:=rem36_in a7
  have r8:=rem36_in a8
  have r9:=rem36_in a9
  have r10:=rem36_in a10
  have r11:=rem36_in a11
  generalize a0.tmod 100001=x0 at *
  generalize a1.tmod 100001=x1 at *
  generalize a2.tmod 100001=x2 at *
  generalize a3.tmod 100001=x3 at *
  generalize a4.tmod 100001=x4 at *
  generalize a5.tmod 100001=x5 at *
  generalize a6.tmod 100001=x6 at *
  generalize a7.tmod 100001=x7 at *
  generalize a8.tmod 100001=x8 at *
  generalize a9.tmod 100001=x9 at *
  generalize a10.tmod 100001=x10 at *
  generalize a11.tmod 100001=x11 at *
  clear g0 g1 g2 g3 g4 g5 g6 g7 g8 g9 g10 g11
  obtain ⟨pts,hp⟩:∃ pts:List V3,pts=[⟨x0,x1,x2⟩,⟨x3,x4,x5⟩,⟨x6,x7,x8⟩,⟨x9,x10,x11⟩]:=⟨_,rfl⟩
  rw [← hp]
  have hl:pts.length=4:=by rw [hp];rfl
  have e0:pts[0]?=some ⟨x0,x1,x2⟩:=by rw [hp];rfl
  have e1:pts[1]?=some ⟨x3,x4,x5⟩:=by rw [hp];rfl
  have e2:pts[2]?=some ⟨x6,x7,x8⟩:=by rw [hp];rfl
  have e3:pts[3]?=some ⟨x9,x10,x11⟩:=by rw [hp];rfl
  refine Tri.mid (fun e' As'=>∃ c1 c2 c3 c4,e'=[(4,.pointer (some ⟨b4,0,none⟩)),(5,.pointer (some ⟨b5,0,none⟩)),(7,.pointer (some ⟨b7,0,none⟩)),(12,.pointer (some ⟨c1,0,none⟩)),(13,.pointer (some ⟨c2,0,none⟩)),(14,.pointer (some ⟨c3,0,none⟩)),(15,.pointer (some ⟨c4,0,none⟩))] ∧
    As'=.cl c1 [.int .i64 x0,.int .i64 x1,.int .i64 x2] 31::.cl c2 [.int .i64 x3,.int .i64 x4,.int .i64 x5] 31::.cl c3 [.int .i64 x6,.int .i64 x7,.int .i64 x8] 31::.cl c4 [.int .i64 x9,.int .i64 x10,.int .i64 x11] 31 ::
      .ow cV3 31 (.slice (some ⟨bp,0,none⟩) 4 4) pts::.cl b7 [.slice (some ⟨bp,0,none⟩) 4 4,.slice (some ⟨bf,0,none⟩) 4 4] 34::.ow cV3 31 (.slice (some ⟨bf,0,none⟩) 4 4) tetF ::
      .cl b5 [.int .i8 o0,.int .i8 o1,.int .i8 o2] 57::.cl b4 [.int .u8 u0,.int .u8 u1,.int .u8 u2,.int .u8 u3] 55::As) ?_ ?_
  · refine Tri.dw [.ow cV3 31 (.slice (some ⟨bp,0,none⟩) 4 4) pts,.cl b7 [.slice (some ⟨bp,0,none⟩) 4 4,.slice (some ⟨bf,0,none⟩) 4 4] 34] [] (.take 0 (.take 1 (.take 2 (.take 3 (.take 4 (.take 5 (.take 6 (.take 7 (.take 8 (.take 9 (.take 10 (.take 11 (.take 12 (.take 13 (.take 14 (.take 15 (.all [(16,.all [(17,.all [(18,.all [(19,.all [(20,.all [(21,.all [(22,.all [(23,.done)])])])])]),(19,.all [(18,.all [(20,.all [(21,.all [(22,.all [(23,.done)])])])])])]),(18,.all [(17,.all [(19,.all [(20,.all [(21,.all [(22,.all [(23,.done)])])])])]),(19,.all [(17,.all [(20,.all [(21,.all [(22,.all [(23,.done)])])])])])]),(19,.all [(17,.all [(18,.all [(20,.all [(21,.all [(22,.all [(23,.done)])])])])]),(18,.all [(17,.all [(20,.all [(21,.all [(22,.all [(23,.done)])])])])])])]),(17,.all [(16,.all [(18,.all [(19,.all [(20,.all [(21,.all [(22,.all [(23,.done)])])])])]),(19,.all [(18,.all [(20,.all [(21,.all [(22,.all [(23,.done)])])])])])]),(18,.all [(16,.all [(19,.all [(20,.all [(21,.all [(22,.all [(23,.done)])])])])]),(19,.all [(16,.all [(20,.all [(21,.all [(22,.all [(23,.done)])])])])])]),(19,.all [(16,.all [(18,.all [(20,.all [(21,.all [(22,.all [(23,.done)])])])])]),(18,.all [(16,.all [(20,.all [(21,.all [(22,.all [(23,.done)])])])])])])]),(18,.all [(16,.all [(17,.all [(19,.all [(20,.all [(21,.all [(22,.all [(23,.done)])])])])]),(19,.all [(17,.all [(20,.all [(21,.all [(22,.all [(23,.done)])])])])])]),(17,.all [(16,.all [(19,.all [(20,.all [(21,.all [(22,.all [(23,.done)])])])])]),(19,.all [(16,.all [(20,.all [(21,.all [(22,.all [(23,.done)])])])])])]),(19,.all [(16,.all [(17,.all [(20,.all [(21,.all [(22,.all [(23,.done)])])])])]),(17,.all [(16,.all [(20,.all [(21,.all [(22,.all [(23,.done)])])])])])])]),(19,.all [(16,.all [(17,.all [(18,.all [(20,.all [(21,.all [(22,.all [(23,.done)])])])])]),(18,.all [(17,.all [(20,.all [(21,.all [(22,.all [(23,.done)])])])])])]),(17,.all [(16,.all [(18,.all [(20,.all [(21,.all [(22,.all [(23,.done)])])])])]),(18,.all [(16,.all [(20,.all [(21,.all [(22,.all [(23,.done)])])])])])]),(18,.all [(16,.all [(17,.all [(20,.all [(21,.all [(22,.all [(23,.done)])])])])]),(17,.all [(16,.all [(20,.all [(21,.all [(22,.all [(23,.done)])])])])])])])]))))))))))))))))) ?_
    (repeat' first|(refine Ka ?_;first|refine Kb ?_|(refine Kc ?_;intro _))|refine Kd ?_|refine Ke ?_|refine Kf ?_|refine Kg rfl ?_|(refine Ki ?_;refine Kj ?_)|exact Kk|refine Kl ?_ ?_|(refine Km ?_;first|refine Kn ?_|(refine Ko ?_;intro _))|(refine Kp ?_;first|refine Kq ?_|refine Kr ?_)|refine Kh ?_)
    all_goals exact Post.cut _ _ ⟨_,_,_,_,rfl,rfl⟩ (by (exact Sub.au)) (by (exact Ents.au))
  rintro _ _ ⟨c1,c2,c3,c4,rfl,rfl⟩
  (repeat' first|(refine Ka ?_;first|refine Kb ?_|(refine Kc ?_;intro _))|refine Kd ?_|refine Ke ?_|refine Kf ?_|refine Kg rfl ?_|(refine Ki ?_;refine Kj ?_)|exact Kk|refine Kl ?_ ?_|(refine Km ?_;first|refine Kn ?_|(refine Ko ?_;intro _))|(refine Kp ?_;first|refine Kq ?_|refine Kr ?_)|refine Kh ?_)
  refine Tri.dw [.cl c1 [.int .i64 x0,.int .i64 x1,.int .i64 x2] 31,.cl c2 [.int .i64 x3,.int .i64 x4,.int .i64 x5] 31,.cl c3 [.int .i64 x6,.int .i64 x7,.int .i64 x8] 31,.cl c4 [.int .i64 x9,.int .i64 x10,.int .i64 x11] 31] [] (.take 0 (.take 1 (.take 3 (.take 4 (.take 6 (.take 7 (.all [(2,.all [(5,.all [(8,.all [(9,.take 10 (.done))])])])]))))))) ?_
  (repeat' first|(refine Ka ?_;first|refine Kb ?_|(refine Kc ?_;intro _))|refine Kd ?_|refine Ke ?_|refine Kf ?_|refine Kg rfl ?_|(refine Ki ?_;refine Kj ?_)|exact Kk|refine Kl ?_ ?_|(refine Km ?_;first|refine Kn ?_|(refine Ko ?_;intro _))|(refine Kp ?_;first|refine Kq ?_|refine Kr ?_)|refine Kh ?_)
  iterate 3
    refine T1.callv rfl rfl rfl rfl rfl (minus36_ok (by omega) (by omega) (by omega) (by omega) (by omega) (by omega)) ?_
    rintro _ _ ⟨rfl,rfl⟩
    (repeat' first|(refine Ka ?_;first|refine Kb ?_|(refine Kc ?_;intro _))|refine Kd ?_|refine Ke ?_|refine Kf ?_|refine Kg rfl ?_|(refine Ki ?_;refine Kj ?_)|exact Kk|refine Kl ?_ ?_|(refine Km ?_;first|refine Kn ?_|(refine Ko ?_;intro _))|(refine Kp ?_;first|refine Kq ?_|refine Kr ?_)|refine Kh ?_)
  refine T1.callv rfl rfl rfl rfl rfl (det36_ok (by omega) (by omega) (by omega) (by omega) (by omega) (by omega) (by omega) (by omega) (by omega)) ?_
  rintro _ _ ⟨rfl,rfl⟩
  generalize hV:det3 _ _ _=V
  (repeat' first|(refine Ka ?_;first|refine Kb ?_|(refine Kc ?_;intro _))|refine Kd ?_|refine Ke ?_|refine Kf ?_|refine Kg rfl ?_|(refine Ki ?_;refine Kj ?_)|exact Kk|refine Kl ?_ ?_|(refine Km ?_;first|refine Kn ?_|(refine Ko ?_;intro _))|(refine Kp ?_;first|refine Kq ?_|refine Kr ?_)|refine Kh ?_)
  ((show Tri _ _ _ (.cond _ _ _) _ _ _;first|refine Tri.condP rfl (fun hc=>?_) (fun hc=>?_)|refine Tri.condN rfl (fun hc=>?_) (fun hc=>?_)))
  · (repeat' first|(refine Ka ?_;first|refine Kb ?_|(refine Kc ?_;intro _))|refine Kd ?_|refine Ke ?_|refine Kf ?_|refine Kg rfl ?_|(refine Ki ?_;refine Kj ?_)|exact Kk|refine Kl ?_ ?_|(refine Km ?_;first|refine Kn ?_|(refine Ko ?_;intro _))|(refine Kp ?_;first|refine Kq ?_|refine Kr ?_)|refine Kh ?_)
    (refine Post.ra ?_)
    exact ⟨_,rfl,Ents.refl _⟩
  (repeat' first|(refine Ka ?_;first|refine Kb ?_|(refine Kc ?_;intro _))|refine Kd ?_|refine Ke ?_|refine Kf ?_|refine Kg rfl ?_|(refine Ki ?_;refine Kj ?_)|exact Kk|refine Kl ?_ ?_|(refine Km ?_;first|refine Kn ?_|(refine Ko ?_;intro _))|(refine Kp ?_;first|refine Kq ?_|refine Kr ?_)|refine Kh ?_)
  rename_i b17
  have m0:=mul_in (m:=255) (n:=100000) (by decide) (by decide) (show -255≤u0 by omega) v0.2 r0.1 r0.2
  have m1:=mul_in (m:=255) (n:=100000) (by decide) (by decide) (show -255≤u0 by omega) v0.2 r1.1 r1.2
  have m2:=mul_in (m:=255) (n:=100000) (by decide) (by decide) (show -255≤u0 by omega) v0.2 r2.1 r2.2
  have m3:=mul_in (m:=255) (n:=100000) (by decide) (by decide) (show -255≤u1 by omega) v1.2 r3.1 r3.2
  have m4:=mul_in (m:=255) (n:=100000) (by decide) (by decide) (show -255≤u1 by omega) v1.2 r4.1 r4.2
  have m5:=mul_in (m:=255) (n:=100000) (by decide) (by decide) (show -255≤u1 by omega) v1.2 r5.1 r5.2
  have m6:=mul_in (m:=255) (n:=100000) (by decide) (by decide) (show -255≤u2 by omega) v2.2 r6.1 r6.2
  have m7:=mul_in (m:=255) (n:=100000) (by decide) (by decide) (show -255≤u2 by omega) v2.2 r7.1 r7.2
  have m8:=mul_in (m:=255) (n:=100000) (by decide) (by decide) (show -255≤u2 by omega) v2.2 r8.1 r8.2
  have m9:=mul_in (m:=255) (n:=100000) (by decide) (by decide) (show -255≤u3 by omega) v3.2 r9.1 r9.2
  have m10:=mul_in (m:=255) (n:=100000) (by decide) (by decide) (show -255≤u3 by omega) v3.2 r10.1 r10.2
  have m11:=mul_in (m:=255) (n:=100000) (by decide) (by decide) (show -255≤u3 by omega) v3.2 r11.1 r11.2
  refine Tri.weak (Bs:=.cl b17 [.int .i64 0,.int .i64 0,.int .i64 0] 31::.cl c1 [.int .i64 x0,.int .i64 x1,.int .i64 x2] 31::.cl c2 [.int .i64 x3,.int .i64 x4,.int .i64 x5] 31::.cl c3 [.int .i64 x6,.int .i64 x7,.int .i64 x8] 31::.cl c4 [.int .i64 x9,.int .i64 x10,.int .i64 x11] 31::.ow cV3 31 (.slice (some ⟨bp,0,none⟩) 4 4) pts::.cl b7 [.slice (some ⟨bp,0,none⟩) 4 4,.slice (some ⟨bf,0,none⟩) 4 4] 34::.ow cV3 31 (.slice (some ⟨bf,0,none⟩) 4 4) tetF::.cl b5 [.int .i8 o0,.int .i8 o1,.int .i8 o2] 57::.cl b4 [.int .u8 u0,.int .u8 u1,.int .u8 u2,.int .u8 u3] 55::As) (e':=[(12,.pointer (some ⟨c1,0,none⟩)),(13,.pointer (some ⟨c2,0,none⟩)),(14,.pointer (some ⟨c3,0,none⟩)),(15,.pointer (some ⟨c4,0,none⟩)),(17,.pointer (some ⟨b17,0,none⟩)),(7,.pointer (some ⟨b7,0,none⟩)),(16,.int .i64 V),(4,.pointer (some ⟨b4,0,none⟩)),(5,.pointer (some ⟨b5,0,none⟩)),(18,.int .i64 0),(82,.agg #[.int .u8 u0,.int .u8 u1,.int .u8 u2,.int .u8 u3]),(83,.int .i64 0)]) (by (exact Sub.au)) ?_
  refine Tri.unroll 5 ?_
  (repeat' first|(refine Ka ?_;first|refine Kb ?_|(refine Kc ?_;intro _))|refine Kd ?_|refine Ke ?_|refine Kf ?_|refine Kg rfl ?_|refine Kh ?_)
  iterate 4
    refine Tri.unroll 4 ?_
    iterate 3
      (repeat' first|(refine Ka ?_;first|refine Kb ?_|(refine Kc ?_;intro _))|refine Kd ?_|refine Ke ?_|refine Kf ?_|refine Kg rfl ?_|(refine Ki ?_;refine Kj ?_)|exact Kk|refine Kl ?_ ?_|(refine Km ?_;first|refine Kn ?_|(refine Ko ?_;intro _))|(refine Kp ?_;first|refine Kq ?_|refine Kr ?_)|refine Kh ?_)
      refine Tri.dr (.take 0 (.take 1 (.take 2 (.take 3 (.take 4 (.take 5 (.take 6 (.take 7 (.take 8 (.take 9 (.take 10 (.take 11 (.take 12 (.take 13 (.take 14 (.all [(15,.done)])))))))))))))))) ?_
    (repeat' first|(refine Ka ?_;first|refine Kb ?_|(refine Kc ?_;intro _))|refine Kd ?_|refine Ke ?_|refine Kf ?_|refine Kg rfl ?_|(refine Ki ?_;refine Kj ?_)|exact Kk|refine Kl ?_ ?_|(refine Km ?_;first|refine Kn ?_|(refine Ko ?_;intro _))|(refine Kp ?_;first|refine Kq ?_|refine Kr ?_)|refine Kh ?_)
  have w0:=wmul v0.1 r0
  have w1:=wmul v0.1 r1
  have w2:=wmul v0.1 r2
  have w3:=wmul v1.1 r3
  have w4:=wmul v1.1 r4
  have w5:=wmul v1.1 r5
  have w6:=wmul v2.1 r6
  have w7:=wmul v2.1 r7
  have w8:=wmul v2.1 r8
  have w9:=wmul v3.1 r9
  have w10:=wmul v3.1 r10
  have w11:=wmul v3.1 r11
  obtain ⟨S,hS⟩:∃ S,S=0+u0+u1+u2+u3:=⟨_,rfl⟩
  rw [← hS]
  obtain ⟨n0,hn0⟩:∃ n,n=0+u0 * x0+u1 * x3+u2 * x6+u3 * x9:=⟨_,rfl⟩
  rw [← hn0]
  have bn0:-(100000 * S)≤n0∧n0≤100000 * S:=by omega
  obtain ⟨n1,hn1⟩:∃ n,n=0+u0 * x1+u1 * x4+u2 * x7+u3 * x10:=⟨_,rfl⟩
  rw [← hn1]
  have bn1:-(100000 * S)≤n1∧n1≤100000 * S:=by omega
  obtain ⟨n2,hn2⟩:∃ n,n=0+u0 * x2+u1 * x5+u2 * x8+u3 * x11:=⟨_,rfl⟩
  rw [← hn2]
  have bn2:-(100000 * S)≤n2∧n2≤100000 * S:=by omega
  have hS0:0≤S∧S≤1020:=by omega
  clear m0 w0 m1 w1 m2 w2 m3 w3 m4 w4 m5 w5 m6 w6 m7 w7 m8 w8 m9 w9 m10 w10 m11 w11 hn0 hn1 hn2 hS
  obtain ⟨M,hM⟩:∃ M,M=mx1 S:=⟨_,rfl⟩
  have hM1:1≤M∧S≤M:=by rw [hM,mx1];split<;>omega
  have q0:=quo36 hM1.1 (n:=n0) (by omega)
  have q1:=quo36 hM1.1 (n:=n1) (by omega)
  have q2:=quo36 hM1.1 (n:=n2) (by omega)
  refine Tri.weak (Bs:=.cl b17 [.int .i64 n0,.int .i64 n1,.int .i64 n2] 31::.cl c1 [.int .i64 x0,.int .i64 x1,.int .i64 x2] 31::.cl c2 [.int .i64 x3,.int .i64 x4,.int .i64 x5] 31::.cl c3 [.int .i64 x6,.int .i64 x7,.int .i64 x8] 31::.cl c4 [.int .i64 x9,.int .i64 x10,.int .i64 x11] 31::.ow cV3 31 (.slice (some ⟨bp,0,none⟩) 4 4) pts::.cl b7 [.slice (some ⟨bp,0,none⟩) 4 4,.slice (some ⟨bf,0,none⟩) 4 4] 34::.ow cV3 31 (.slice (some ⟨bf,0,none⟩) 4 4) tetF::.cl b5 [.int .i8 o0,.int .i8 o1,.int .i8 o2] 57::.cl b4 [.int .u8 u0,.int .u8 u1,.int .u8 u2,.int .u8 u3] 55::As) (e':=[(12,.pointer (some ⟨c1,0,none⟩)),(13,.pointer (some ⟨c2,0,none⟩)),(14,.pointer (some ⟨c3,0,none⟩)),(15,.pointer (some ⟨c4,0,none⟩)),(17,.pointer (some ⟨b17,0,none⟩)),(7,.pointer (some ⟨b7,0,none⟩)),(16,.int .i64 V),(5,.pointer (some ⟨b5,0,none⟩)),(18,.int .i64 S),(111,.int .i64 0)]) (by (exact Sub.au)) ?_
  refine Tri.unroll 4 ?_
  (repeat' first|(refine Ka ?_;first|refine Kb ?_|(refine Kc ?_;intro _))|refine Kd ?_|refine Ke ?_|refine Kf ?_|refine Kg rfl ?_|refine Kh ?_)
  refine Tri.dr (.take 0 (.take 1 (.take 2 (.take 3 (.take 4 (.take 5 (.take 6 (.take 7 (.take 8 (.take 9 (.take 10 (.take 11 (.take 12 (.all [(13,.done)])))))))))))))) ?_
  (repeat' first|(refine Ka ?_;first|refine Kb ?_|(refine Kc ?_;intro _))|refine Kd ?_|refine Ke ?_|refine Kf ?_|refine Kg rfl ?_|(refine Ki ?_;refine Kj ?_)|exact Kk|refine Kl ?_ ?_|(refine Km ?_;first|refine Kn ?_|(refine Ko ?_;intro _))|(refine Kp ?_;first|refine Kq ?_|refine Kr ?_)|refine Kh ?_)
  rw [show (if S < 1 then (1:Int) else S)=M from hM.symm]
  refine TT.take rfl rfl rfl (ExF.quo rfl rfl (by omega)) ?_
  rw [wrap_of_IR (show IR .i64 (n0.tdiv M) from ⟨by show -9223372036854775808≤_;omega,by show _≤9223372036854775807;omega⟩)]
  (repeat' first|(refine Ka ?_;first|refine Kb ?_|(refine Kc ?_;intro _))|refine Kd ?_|refine Ke ?_|refine Kf ?_|refine Kg rfl ?_|(refine Ki ?_;refine Kj ?_)|exact Kk|refine Kl ?_ ?_|(refine Km ?_;first|refine Kn ?_|(refine Ko ?_;intro _))|(refine Kp ?_;first|refine Kq ?_|refine Kr ?_)|refine Kh ?_)
  refine Tri.dr (.take 0 (.take 1 (.take 2 (.take 3 (.take 4 (.take 5 (.take 6 (.take 7 (.take 8 (.take 9 (.take 10 (.take 11 (.take 12 (.all [(13,.done)])))))))))))))) ?_
  (repeat' first|(refine Ka ?_;first|refine Kb ?_|(refine Kc ?_;intro _))|refine Kd ?_|refine Ke ?_|refine Kf ?_|refine Kg rfl ?_|(refine Ki ?_;refine Kj ?_)|exact Kk|refine Kl ?_ ?_|(refine Km ?_;first|refine Kn ?_|(refine Ko ?_;intro _))|(refine Kp ?_;first|refine Kq ?_|refine Kr ?_)|refine Kh ?_)
  rw [show (if S < 1 then (1:Int) else S)=M from hM.symm]
  refine TT.take rfl rfl rfl (ExF.quo rfl rfl (by omega)) ?_
  rw [wrap_of_IR (show IR .i64 (n1.tdiv M) from ⟨by show -9223372036854775808≤_;omega,by show _≤9223372036854775807;omega⟩)]
  (repeat' first|(refine Ka ?_;first|refine Kb ?_|(refine Kc ?_;intro _))|refine Kd ?_|refine Ke ?_|refine Kf ?_|refine Kg rfl ?_|(refine Ki ?_;refine Kj ?_)|exact Kk|refine Kl ?_ ?_|(refine Km ?_;first|refine Kn ?_|(refine Ko ?_;intro _))|(refine Kp ?_;first|refine Kq ?_|refine Kr ?_)|refine Kh ?_)
  refine Tri.dr (.take 0 (.take 1 (.take 2 (.take 3 (.take 4 (.take 5 (.take 6 (.take 7 (.take 8 (.take 9 (.take 10 (.take 11 (.take 12 (.all [(13,.done)])))))))))))))) ?_
  (repeat' first|(refine Ka ?_;first|refine Kb ?_|(refine Kc ?_;intro _))|refine Kd ?_|refine Ke ?_|refine Kf ?_|refine Kg rfl ?_|(refine Ki ?_;refine Kj ?_)|exact Kk|refine Kl ?_ ?_|(refine Km ?_;first|refine Kn ?_|(refine Ko ?_;intro _))|(refine Kp ?_;first|refine Kq ?_|refine Kr ?_)|refine Kh ?_)
  rw [show (if S < 1 then (1:Int) else S)=M from hM.symm]
  refine TT.take rfl rfl rfl (ExF.quo rfl rfl (by omega)) ?_
  rw [wrap_of_IR (show IR .i64 (n2.tdiv M) from ⟨by show -9223372036854775808≤_;omega,by show _≤9223372036854775807;omega⟩)]
  (repeat' first|(refine Ka ?_;first|refine Kb ?_|(refine Kc ?_;intro _))|refine Kd ?_|refine Ke ?_|refine Kf ?_|refine Kg rfl ?_|(refine Ki ?_;refine Kj ?_)|exact Kk|refine Kl ?_ ?_|(refine Km ?_;first|refine Kn ?_|(refine Ko ?_;intro _))|(refine Kp ?_;first|refine Kq ?_|refine Kr ?_)|refine Kh ?_)
  obtain ⟨p0,hp0⟩:∃ p,p=n0.tdiv M+o0:=⟨_,rfl⟩
  rw [← hp0]
  obtain ⟨p1,hp1⟩:∃ p,p=n1.tdiv M+o1:=⟨_,rfl⟩
  rw [← hp1]
  obtain ⟨p2,hp2⟩:∃ p,p=n2.tdiv M+o2:=⟨_,rfl⟩
  rw [← hp2]
  have z0:-100128≤p0∧p0≤100128:=by omega
  have z1:-100128≤p1∧p1≤100128:=by omega
  have z2:-100128≤p2∧p2≤100128:=by omega
  clear e0 e1 e2 e3 hl hp0 hp1 hp2 q0 q1 q2 hM hM1 bn0 bn1 bn2 hS0 v0 v1 v2 v3 s0 s1 s2
  refine Tri.weak (Bs:=.cl b17 [.int .i64 p0,.int .i64 p1,.int .i64 p2] 31::.cl c1 [.int .i64 x0,.int .i64 x1,.int .i64 x2] 31::.cl c2 [.int .i64 x3,.int .i64 x4,.int .i64 x5] 31::.cl c3 [.int .i64 x6,.int .i64 x7,.int .i64 x8] 31::.cl c4 [.int .i64 x9,.int .i64 x10,.int .i64 x11] 31::.ow cV3 31 (.slice (some ⟨bp,0,none⟩) 4 4) pts::.cl b7 [.slice (some ⟨bp,0,none⟩) 4 4,.slice (some ⟨bf,0,none⟩) 4 4] 34::.ow cV3 31 (.slice (some ⟨bf,0,none⟩) 4 4) tetF::As) (e':=[(12,.pointer (some ⟨c1,0,none⟩)),(13,.pointer (some ⟨c2,0,none⟩)),(14,.pointer (some ⟨c3,0,none⟩)),(15,.pointer (some ⟨c4,0,none⟩)),(17,.pointer (some ⟨b17,0,none⟩)),(7,.pointer (some ⟨b7,0,none⟩)),(16,.int .i64 V)]) (by (exact Sub.au)) ?_
  refine Tri.mid (fun e' As'=>∃ b23,e'=[(7,.pointer (some ⟨b7,0,none⟩)),(16,.int .i64 V),(17,.pointer (some ⟨b17,0,none⟩)),(23,.pointer (some ⟨b23,0,none⟩))] ∧
    As'=.cl b23 [.int .i64 (det3 ⟨x3 - p0,x4 - p1,x5 - p2⟩ ⟨x6 - p0,x7 - p1,x8 - p2⟩ ⟨x9 - p0,x10 - p1,x11 - p2⟩),.int .i64 (det3 ⟨p0 - x0,p1 - x1,p2 - x2⟩ ⟨x6 - x0,x7 - x1,x8 - x2⟩ ⟨x9 - x0,x10 - x1,x11 - x2⟩),.int .i64 (det3 ⟨x3 - x0,x4 - x1,x5 - x2⟩ ⟨p0 - x0,p1 - x1,p2 - x2⟩ ⟨x9 - x0,x10 - x1,x11 - x2⟩),.int .i64 (det3 ⟨x3 - x0,x4 - x1,x5 - x2⟩ ⟨x6 - x0,x7 - x1,x8 - x2⟩ ⟨p0 - x0,p1 - x1,p2 - x2⟩)] 60::.cl b17 [.int .i64 p0,.int .i64 p1,.int .i64 p2] 31::.ow cV3 31 (.slice (some ⟨bp,0,none⟩) 4 4) pts::.cl b7 [.slice (some ⟨bp,0,none⟩) 4 4,.slice (some ⟨bf,0,none⟩) 4 4] 34::.ow cV3 31 (.slice (some ⟨bf,0,none⟩) 4 4) tetF::As) ?_ ?_
  · refine reg34 (fun x hx=>?_) (fun x hx=>?_) fun b23=>Post.cut _ _ ⟨b23,rfl,rfl⟩ (by (exact Sub.au)) (by (exact Ents.au))
    · simp only [List.mem_cons,List.not_mem_nil,or_false] at hx
      rcases hx with rfl|rfl|rfl|rfl|rfl|rfl|rfl|rfl|rfl|rfl|rfl|rfl<;>assumption
    · simp only [List.mem_cons,List.not_mem_nil,or_false] at hx
      rcases hx with rfl|rfl|rfl<;>assumption
  rintro _ _ ⟨b23,rfl,rfl⟩
  have hT:=tet_side (a:=⟨x0,x1,x2⟩) (b:=⟨x3,x4,x5⟩) (c:=⟨x6,x7,x8⟩) (e:=⟨x9,x10,x11⟩) (p:=⟨p0,p1,p2⟩) (V:=V) (d1:=det3 ⟨x3 - p0,x4 - p1,x5 - p2⟩ ⟨x6 - p0,x7 - p1,x8 - p2⟩ ⟨x9 - p0,x10 - p1,x11 - p2⟩) (d2:=det3 ⟨p0 - x0,p1 - x1,p2 - x2⟩ ⟨x6 - x0,x7 - x1,x8 - x2⟩ ⟨x9 - x0,x10 - x1,x11 - x2⟩) (d3:=det3 ⟨x3 - x0,x4 - x1,x5 - x2⟩ ⟨p0 - x0,p1 - x1,p2 - x2⟩ ⟨x9 - x0,x10 - x1,x11 - x2⟩) (d4:=det3 ⟨x3 - x0,x4 - x1,x5 - x2⟩ ⟨x6 - x0,x7 - x1,x8 - x2⟩ ⟨p0 - x0,p1 - x1,p2 - x2⟩)
    ⟨by simp only;omega,by simp only;omega,by simp only;omega,by simp only;omega,by simp only;omega,by simp only;omega⟩ ⟨by simp only;omega,by simp only;omega,by simp only;omega,by simp only;omega,by simp only;omega,by simp only;omega⟩
    ⟨by simp only;omega,by simp only;omega,by simp only;omega,by simp only;omega,by simp only;omega,by simp only;omega⟩ ⟨by simp only;omega,by simp only;omega,by simp only;omega,by simp only;omega,by simp only;omega,by simp only;omega⟩
    (isFar_no.2 (by simp only;omega)) hV (by omega) rfl rfl rfl rfl
  rw [← hp] at hT
  generalize det3 ⟨x3 - p0,x4 - p1,x5 - p2⟩ ⟨x6 - p0,x7 - p1,x8 - p2⟩ ⟨x9 - p0,x10 - p1,x11 - p2⟩=d1 at *
  generalize det3 ⟨p0 - x0,p1 - x1,p2 - x2⟩ ⟨x6 - x0,x7 - x1,x8 - x2⟩ ⟨x9 - x0,x10 - x1,x11 - x2⟩=d2 at *
  generalize det3 ⟨x3 - x0,x4 - x1,x5 - x2⟩ ⟨p0 - x0,p1 - x1,p2 - x2⟩ ⟨x9 - x0,x10 - x1,x11 - x2⟩=d3 at *
  generalize det3 ⟨x3 - x0,x4 - x1,x5 - x2⟩ ⟨x6 - x0,x7 - x1,x8 - x2⟩ ⟨p0 - x0,p1 - x1,p2 - x2⟩=d4 at *
  clear r0 r1 r2 r3 r4 r5 r6 r7 r8 r9 r10 r11 z0 z1 z2 hp
  (repeat' first|(refine Ka ?_;first|refine Kb ?_|(refine Kc ?_;intro _))|refine Kd ?_|refine Ke ?_|refine Kf ?_|refine Kg rfl ?_|refine Kh ?_)
  refine Tri.loop (ι:=Nat) (fun i=>i≤4) (fun i=>4 - i)
    (fun i=>[(7,.pointer (some ⟨b7,0,none⟩)),(16,.int .i64 V),(17,.pointer (some ⟨b17,0,none⟩)),(24,.int .i64 (sideAt V d1 d2 d3 d4 i)),(169,.agg #[.int .i64 d1,.int .i64 d2,.int .i64 d3,.int .i64 d4]),(170,.int .i64 (i:Int))])
    (fun i=>.cl b17 [.int .i64 p0,.int .i64 p1,.int .i64 p2] 31::.ow cV3 31 (.slice (some ⟨bp,0,none⟩) 4 4) pts::.cl b7 [.slice (some ⟨bp,0,none⟩) 4 4,.slice (some ⟨bf,0,none⟩) 4 4] 34::.ow cV3 31 (.slice (some ⟨bf,0,none⟩) 4 4) tetF::As) 0 (by decide) (by show Sub _ [(7,_),(16,_),(17,_),(24,.int .i64 2),_,_];(exact Sub.au)) (by (exact Ents.au)) ?_
  intro i hi
  rcases (show i=0∨i=1∨i=2∨i=3∨i=4 by omega) with rfl|rfl|rfl|rfl|rfl
  · show Tri _ _ _ _ [_,_,_,(24,.int .i64 (sideAt V d1 d2 d3 d4 0)),_,_] _ _
    have hnx:∀ s,sideAt V d1 d2 d3 d4 0=s→sideAt V d1 d2 d3 d4 1=stepS V d1 s:=fun s h=>by rw [← h];rfl
    generalize sideAt V d1 d2 d3 d4 0=s at *
    replace hnx:=hnx s rfl
    clear hT hi
    by_cases h0:d1=0
    · have hst:stepS V d1 s=if 1 < s then 1 else s:=if_pos h0
      rw [hst] at hnx
      (repeat' first|(refine Ka ?_;first|refine Kb ?_|(refine Kc ?_;intro _))|refine Kd ?_|refine Ke ?_|refine Kf ?_|refine Kg rfl ?_|refine Kh ?_)
      exact Post.round 1 (by decide) (by decide) (by rw [hnx];(exact Sub.au)) (by (exact Ents.au))
    · by_cases h1:decide (0 < d1)=decide (0 < V)
      · have hst:stepS V d1 s=s:=by unfold stepS;rw [if_neg h0,if_neg (by rw [h1];simp)]
        rw [hst] at hnx
        (repeat' first|(refine Ka ?_;first|refine Kb ?_|(refine Kc ?_;intro _))|refine Kd ?_|refine Ke ?_|refine Kf ?_|refine Kg rfl ?_|refine Kh ?_)
        rw [decide_eq_true h1]
        (repeat' first|(refine Ka ?_;first|refine Kb ?_|(refine Kc ?_;intro _))|refine Kd ?_|refine Ke ?_|refine Kf ?_|refine Kg rfl ?_|refine Kh ?_)
        exact Post.round 1 (by decide) (by decide) (by rw [hnx];(exact Sub.au)) (by (exact Ents.au))
      · have hst:stepS V d1 s=0:=by unfold stepS;rw [if_neg h0,if_pos (by simpa using h1)]
        rw [hst] at hnx
        (repeat' first|(refine Ka ?_;first|refine Kb ?_|(refine Kc ?_;intro _))|refine Kd ?_|refine Ke ?_|refine Kf ?_|refine Kg rfl ?_|refine Kh ?_)
        rw [decide_eq_false h1]
        (repeat' first|(refine Ka ?_;first|refine Kb ?_|(refine Kc ?_;intro _))|refine Kd ?_|refine Ke ?_|refine Kf ?_|refine Kg rfl ?_|refine Kh ?_)
        exact Post.round 1 (by decide) (by decide) (by rw [hnx];(exact Sub.au)) (by (exact Ents.au))
  · show Tri _ _ _ _ [_,_,_,(24,.int .i64 (sideAt V d1 d2 d3 d4 1)),_,_] _ _
    have hnx:∀ s,sideAt V d1 d2 d3 d4 1=s→sideAt V d1 d2 d3 d4 2=stepS V d2 s:=fun s h=>by rw [← h];rfl
    generalize sideAt V d1 d2 d3 d4 1=s at *
    replace hnx:=hnx s rfl
    clear hT hi
    by_cases h0:d2=0
    · have hst:stepS V d2 s=if 1 < s then 1 else s:=if_pos h0
      rw [hst] at hnx
      (repeat' first|(refine Ka ?_;first|refine Kb ?_|(refine Kc ?_;intro _))|refine Kd ?_|refine Ke ?_|refine Kf ?_|refine Kg rfl ?_|refine Kh ?_)
      exact Post.round 2 (by decide) (by decide) (by rw [hnx];(exact Sub.au)) (by (exact Ents.au))
    · by_cases h1:decide (0 < d2)=decide (0 < V)
      · have hst:stepS V d2 s=s:=by unfold stepS;rw [if_neg h0,if_neg (by rw [h1];simp)]
        rw [hst] at hnx
        (repeat' first|(refine Ka ?_;first|refine Kb ?_|(refine Kc ?_;intro _))|refine Kd ?_|refine Ke ?_|refine Kf ?_|refine Kg rfl ?_|refine Kh ?_)
        rw [decide_eq_true h1]
        (repeat' first|(refine Ka ?_;first|refine Kb ?_|(refine Kc ?_;intro _))|refine Kd ?_|refine Ke ?_|refine Kf ?_|refine Kg rfl ?_|refine Kh ?_)
        exact Post.round 2 (by decide) (by decide) (by rw [hnx];(exact Sub.au)) (by (exact Ents.au))
      · have hst:stepS V d2 s=0:=by unfold stepS;rw [if_neg h0,if_pos (by simpa using h1)]
        rw [hst] at hnx
        (repeat' first|(refine Ka ?_;first|refine Kb ?_|(refine Kc ?_;intro _))|refine Kd ?_|refine Ke ?_|refine Kf ?_|refine Kg rfl ?_|refine Kh ?_)
        rw [decide_eq_false h1]
        (repeat' first|(refine Ka ?_;first|refine Kb ?_|(refine Kc ?_;intro _))|refine Kd ?_|refine Ke ?_|refine Kf ?_|refine Kg rfl ?_|refine Kh ?_)
        exact Post.round 2 (by decide) (by decide) (by rw [hnx];(exact Sub.au)) (by (exact Ents.au))
  · show Tri _ _ _ _ [_,_,_,(24,.int .i64 (sideAt V d1 d2 d3 d4 2)),_,_] _ _
    have hnx:∀ s,sideAt V d1 d2 d3 d4 2=s→sideAt V d1 d2 d3 d4 3=stepS V d3 s:=fun s h=>by rw [← h];rfl
    generalize sideAt V d1 d2 d3 d4 2=s at *
    replace hnx:=hnx s rfl
    clear hT hi
    by_cases h0:d3=0
    · have hst:stepS V d3 s=if 1 < s then 1 else s:=if_pos h0
      rw [hst] at hnx
      (repeat' first|(refine Ka ?_;first|refine Kb ?_|(refine Kc ?_;intro _))|refine Kd ?_|refine Ke ?_|refine Kf ?_|refine Kg rfl ?_|refine Kh ?_)
      exact Post.round 3 (by decide) (by decide) (by rw [hnx];(exact Sub.au)) (by (exact Ents.au))
    · by_cases h1:decide (0 < d3)=decide (0 < V)
      · have hst:stepS V d3 s=s:=by unfold stepS;rw [if_neg h0,if_neg (by rw [h1];simp)]
        rw [hst] at hnx
        (repeat' first|(refine Ka ?_;first|refine Kb ?_|(refine Kc ?_;intro _))|refine Kd ?_|refine Ke ?_|refine Kf ?_|refine Kg rfl ?_|refine Kh ?_)
        rw [decide_eq_true h1]
        (repeat' first|(refine Ka ?_;first|refine Kb ?_|(refine Kc ?_;intro _))|refine Kd ?_|refine Ke ?_|refine Kf ?_|refine Kg rfl ?_|refine Kh ?_)
        exact Post.round 3 (by decide) (by decide) (by rw [hnx];(exact Sub.au)) (by (exact Ents.au))
      · have hst:stepS V d3 s=0:=by unfold stepS;rw [if_neg h0,if_pos (by simpa using h1)]
        rw [hst] at hnx
        (repeat' first|(refine Ka ?_;first|refine Kb ?_|(refine Kc ?_;intro _))|refine Kd ?_|refine Ke ?_|refine Kf ?_|refine Kg rfl ?_|refine Kh ?_)
        rw [decide_eq_false h1]
        (repeat' first|(refine Ka ?_;first|refine Kb ?_|(refine Kc ?_;intro _))|refine Kd ?_|refine Ke ?_|refine Kf ?_|refine Kg rfl ?_|refine Kh ?_)
        exact Post.round 3 (by decide) (by decide) (by rw [hnx];(exact Sub.au)) (by (exact Ents.au))
  · show Tri _ _ _ _ [_,_,_,(24,.int .i64 (sideAt V d1 d2 d3 d4 3)),_,_] _ _
    have hnx:∀ s,sideAt V d1 d2 d3 d4 3=s→sideAt V d1 d2 d3 d4 4=stepS V d4 s:=fun s h=>by rw [← h];rfl
    generalize sideAt V d1 d2 d3 d4 3=s at *
    replace hnx:=hnx s rfl
    clear hT hi
    by_cases h0:d4=0
    · have hst:stepS V d4 s=if 1 < s then 1 else s:=if_pos h0
      rw [hst] at hnx
      (repeat' first|(refine Ka ?_;first|refine Kb ?_|(refine Kc ?_;intro _))|refine Kd ?_|refine Ke ?_|refine Kf ?_|refine Kg rfl ?_|refine Kh ?_)
      exact Post.round 4 (by decide) (by decide) (by rw [hnx];(exact Sub.au)) (by (exact Ents.au))
    · by_cases h1:decide (0 < d4)=decide (0 < V)
      · have hst:stepS V d4 s=s:=by unfold stepS;rw [if_neg h0,if_neg (by rw [h1];simp)]
        rw [hst] at hnx
        (repeat' first|(refine Ka ?_;first|refine Kb ?_|(refine Kc ?_;intro _))|refine Kd ?_|refine Ke ?_|refine Kf ?_|refine Kg rfl ?_|refine Kh ?_)
        rw [decide_eq_true h1]
        (repeat' first|(refine Ka ?_;first|refine Kb ?_|(refine Kc ?_;intro _))|refine Kd ?_|refine Ke ?_|refine Kf ?_|refine Kg rfl ?_|refine Kh ?_)
        exact Post.round 4 (by decide) (by decide) (by rw [hnx];(exact Sub.au)) (by (exact Ents.au))
      · have hst:stepS V d4 s=0:=by unfold stepS;rw [if_neg h0,if_pos (by simpa using h1)]
        rw [hst] at hnx
        (repeat' first|(refine Ka ?_;first|refine Kb ?_|(refine Kc ?_;intro _))|refine Kd ?_|refine Ke ?_|refine Kf ?_|refine Kg rfl ?_|refine Kh ?_)
        rw [decide_eq_false h1]
        (repeat' first|(refine Ka ?_;first|refine Kb ?_|(refine Kc ?_;intro _))|refine Kd ?_|refine Ke ?_|refine Kf ?_|refine Kg rfl ?_|refine Kh ?_)
        exact Post.round 4 (by decide) (by decide) (by rw [hnx];(exact Sub.au)) (by (exact Ents.au))
  · show Tri _ _ _ _ [_,_,_,(24,.int .i64 (sideS V d1 d2 d3 d4)),_,_] _ _
    generalize sideS V d1 d2 d3 d4=s at *
    obtain ⟨hS,hW⟩:=hT
    by_cases hn:V < 0
    · rw [Int.sign_eq_neg_one_of_neg hn] at hW
      rcases hW with ⟨rfl,hW⟩|⟨rfl,hW⟩|⟨rfl,hW⟩
      · (repeat' first|(refine Ka ?_;first|refine Kb ?_|(refine Kc ?_;intro _))|refine Kd ?_|refine Ke ?_|refine Kf ?_|refine Kg rfl ?_|refine Kh ?_)
        refine TL.callv rfl rfl rfl rfl (winding_ok ht (pv:=.slice (some ⟨bp,0,none⟩) 4 4) (fv:=.slice (some ⟨bf,0,none⟩) 4 4) (pts:=pts) (fcs:=tetF) (p:=⟨p0,p1,p2⟩)) ?_
        rw [hW]
        rintro _ _ ⟨rfl,rfl⟩
        (repeat' first|(refine Ka ?_;first|refine Kb ?_|(refine Kc ?_;intro _))|refine Kd ?_|refine Ke ?_|refine Kf ?_|refine Kg rfl ?_|refine Kh ?_)
        refine TL.callv rfl rfl rfl rfl (lies36T_ok ht (pv:=.slice (some ⟨bp,0,none⟩) 4 4) (fv:=.slice (some ⟨bf,0,none⟩) 4 4) (pts:=pts) (fcs:=tetF) (p:=⟨p0,p1,p2⟩) hS) ?_
        rintro _ _ ⟨rfl,rfl⟩
        (repeat' first|(refine Ka ?_;first|refine Kb ?_|(refine Kc ?_;intro _))|refine Kd ?_|refine Ke ?_|refine Kf ?_|refine Kg rfl ?_|refine Kh ?_)
        (refine Post.ra ?_)
        exact ⟨_,rfl,Ents.refl _⟩
      · (repeat' first|(refine Ka ?_;first|refine Kb ?_|(refine Kc ?_;intro _))|refine Kd ?_|refine Ke ?_|refine Kf ?_|refine Kg rfl ?_|refine Kh ?_)
        refine TL.callv rfl rfl rfl rfl (winding_ok ht (pv:=.slice (some ⟨bp,0,none⟩) 4 4) (fv:=.slice (some ⟨bf,0,none⟩) 4 4) (pts:=pts) (fcs:=tetF) (p:=⟨p0,p1,p2⟩)) ?_
        rw [hW]
        rintro _ _ ⟨rfl,rfl⟩
        (repeat' first|(refine Ka ?_;first|refine Kb ?_|(refine Kc ?_;intro _))|refine Kd ?_|refine Ke ?_|refine Kf ?_|refine Kg rfl ?_|refine Kh ?_)
        refine TL.callv rfl rfl rfl rfl (lies36T_ok ht (pv:=.slice (some ⟨bp,0,none⟩) 4 4) (fv:=.slice (some ⟨bf,0,none⟩) 4 4) (pts:=pts) (fcs:=tetF) (p:=⟨p0,p1,p2⟩) hS) ?_
        rintro _ _ ⟨rfl,rfl⟩
        (repeat' first|(refine Ka ?_;first|refine Kb ?_|(refine Kc ?_;intro _))|refine Kd ?_|refine Ke ?_|refine Kf ?_|refine Kg rfl ?_|refine Kh ?_)
        (refine Post.ra ?_)
        exact ⟨_,rfl,Ents.refl _⟩
      · (repeat' first|(refine Ka ?_;first|refine Kb ?_|(refine Kc ?_;intro _))|refine Kd ?_|refine Ke ?_|refine Kf ?_|refine Kg rfl ?_|refine Kh ?_)
        refine TL.callv rfl rfl rfl rfl (winding_ok ht (pv:=.slice (some ⟨bp,0,none⟩) 4 4) (fv:=.slice (some ⟨bf,0,none⟩) 4 4) (pts:=pts) (fcs:=tetF) (p:=⟨p0,p1,p2⟩)) ?_
        rw [hW]
        rintro _ _ ⟨rfl,rfl⟩
        (repeat' first|(refine Ka ?_;first|refine Kb ?_|(refine Kc ?_;intro _))|refine Kd ?_|refine Ke ?_|refine Kf ?_|refine Kg rfl ?_|refine Kh ?_)
        refine TL.callv rfl rfl rfl rfl (lies36T_ok ht (pv:=.slice (some ⟨bp,0,none⟩) 4 4) (fv:=.slice (some ⟨bf,0,none⟩) 4 4) (pts:=pts) (fcs:=tetF) (p:=⟨p0,p1,p2⟩) hS) ?_
        rintro _ _ ⟨rfl,rfl⟩
        (repeat' first|(refine Ka ?_;first|refine Kb ?_|(refine Kc ?_;intro _))|refine Kd ?_|refine Ke ?_|refine Kf ?_|refine Kg rfl ?_|refine Kh ?_)
        (refine Post.ra ?_)
        exact ⟨_,rfl,Ents.refl _⟩
    · rw [Int.sign_eq_one_of_pos (show 0 < V by omega)] at hW
      rcases hW with ⟨rfl,hW⟩|⟨rfl,hW⟩|⟨rfl,hW⟩
      · (repeat' first|(refine Ka ?_;first|refine Kb ?_|(refine Kc ?_;intro _))|refine Kd ?_|refine Ke ?_|refine Kf ?_|refine Kg rfl ?_|refine Kh ?_)
        refine TL.callv rfl rfl rfl rfl (winding_ok ht (pv:=.slice (some ⟨bp,0,none⟩) 4 4) (fv:=.slice (some ⟨bf,0,none⟩) 4 4) (pts:=pts) (fcs:=tetF) (p:=⟨p0,p1,p2⟩)) ?_
        rw [hW]
        rintro _ _ ⟨rfl,rfl⟩
        (repeat' first|(refine Ka ?_;first|refine Kb ?_|(refine Kc ?_;intro _))|refine Kd ?_|refine Ke ?_|refine Kf ?_|refine Kg rfl ?_|refine Kh ?_)
        refine TL.callv rfl rfl rfl rfl (lies36T_ok ht (pv:=.slice (some ⟨bp,0,none⟩) 4 4) (fv:=.slice (some ⟨bf,0,none⟩) 4 4) (pts:=pts) (fcs:=tetF) (p:=⟨p0,p1,p2⟩) hS) ?_
        rintro _ _ ⟨rfl,rfl⟩
        (repeat' first|(refine Ka ?_;first|refine Kb ?_|(refine Kc ?_;intro _))|refine Kd ?_|refine Ke ?_|refine Kf ?_|refine Kg rfl ?_|refine Kh ?_)
        (refine Post.ra ?_)
        exact ⟨_,rfl,Ents.refl _⟩
      · (repeat' first|(refine Ka ?_;first|refine Kb ?_|(refine Kc ?_;intro _))|refine Kd ?_|refine Ke ?_|refine Kf ?_|refine Kg rfl ?_|refine Kh ?_)
        refine TL.callv rfl rfl rfl rfl (winding_ok ht (pv:=.slice (some ⟨bp,0,none⟩) 4 4) (fv:=.slice (some ⟨bf,0,none⟩) 4 4) (pts:=pts) (fcs:=tetF) (p:=⟨p0,p1,p2⟩)) ?_
        rw [hW]
        rintro _ _ ⟨rfl,rfl⟩
        (repeat' first|(refine Ka ?_;first|refine Kb ?_|(refine Kc ?_;intro _))|refine Kd ?_|refine Ke ?_|refine Kf ?_|refine Kg rfl ?_|refine Kh ?_)
        refine TL.callv rfl rfl rfl rfl (lies36T_ok ht (pv:=.slice (some ⟨bp,0,none⟩) 4 4) (fv:=.slice (some ⟨bf,0,none⟩) 4 4) (pts:=pts) (fcs:=tetF) (p:=⟨p0,p1,p2⟩) hS) ?_
        rintro _ _ ⟨rfl,rfl⟩
        (repeat' first|(refine Ka ?_;first|refine Kb ?_|(refine Kc ?_;intro _))|refine Kd ?_|refine Ke ?_|refine Kf ?_|refine Kg rfl ?_|refine Kh ?_)
        (refine Post.ra ?_)
        exact ⟨_,rfl,Ents.refl _⟩
      · (repeat' first|(refine Ka ?_;first|refine Kb ?_|(refine Kc ?_;intro _))|refine Kd ?_|refine Ke ?_|refine Kf ?_|refine Kg rfl ?_|refine Kh ?_)
        refine TL.callv rfl rfl rfl rfl (winding_ok ht (pv:=.slice (some ⟨bp,0,none⟩) 4 4) (fv:=.slice (some ⟨bf,0,none⟩) 4 4) (pts:=pts) (fcs:=tetF) (p:=⟨p0,p1,p2⟩)) ?_
        rw [hW]
        rintro _ _ ⟨rfl,rfl⟩
        (repeat' first|(refine Ka ?_;first|refine Kb ?_|(refine Kc ?_;intro _))|refine Kd ?_|refine Ke ?_|refine Kf ?_|refine Kg rfl ?_|refine Kh ?_)
        refine TL.callv rfl rfl rfl rfl (lies36T_ok ht (pv:=.slice (some ⟨bp,0,none⟩) 4 4) (fv:=.slice (some ⟨bf,0,none⟩) 4 4) (pts:=pts) (fcs:=tetF) (p:=⟨p0,p1,p2⟩) hS) ?_
        rintro _ _ ⟨rfl,rfl⟩
        (repeat' first|(refine Ka ?_;first|refine Kb ?_|(refine Kc ?_;intro _))|refine Kd ?_|refine Ke ?_|refine Kf ?_|refine Kg rfl ?_|refine Kh ?_)
        (refine Post.ra ?_)
        exact ⟨_,rfl,Ents.refl _⟩
end Go.Proofs.YtgapnfaakdjpaaaGreatDoor
