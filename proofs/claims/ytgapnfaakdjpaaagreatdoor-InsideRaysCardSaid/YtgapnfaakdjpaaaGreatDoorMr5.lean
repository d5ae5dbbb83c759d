/- Walks: the laws' drafts of meshes. -/
import Derived.Test.YtgapnfaakdjpaaaGreatDoorMr1
import Derived.Test.YtgapnfaakdjpaaaGreatDoorPl
import Derived.Test.YtgapnfaakdjpaaaGreatDoorSxB
import Derived.Test.YtgapnfaakdjpaaaGreatDoorMa9
import Derived.Test.YtgapnfaakdjpaaaGreatDoorVa1
import Derived.Test.YtgapnfaakdjpaaaGreatDoorMq1
import Derived.Test.YtgapnfaakdjpaaaGreatDoorSxS
namespace Go.Proofs.YtgapnfaakdjpaaaGreatDoor
open Go Go.Sx
variable {w0:World} {As:List Ent} {pv fv:Value} {pts fcs:List V3}
theorem shape_ok {k:Nat} (hk:k < 4):CallsS Tryz.prog w0 33 [.int .i64 (k:Int)] As fun v Bs=>∃ b1 b2,v=.tuple #[.slice (some ⟨b1,0,none⟩) (shapeP k).length (shapeP k).length,.slice (some ⟨b2,0,none⟩) (shapeF k).length (shapeF k).length] ∧
    Bs=.ow cV3 31 (.slice (some ⟨b1,0,none⟩) (shapeP k).length (shapeP k).length) (shapeP k)::.ow cV3 31 (.slice (some ⟨b2,0,none⟩) (shapeF k).length (shapeF k).length) (shapeF k)::As:=by
  rcases (by omega:k=0∨k=1∨k=2∨k=3) with rfl|rfl|rfl|rfl
  all_goals
    refine CallsS.of_tri Tryz.func33 rfl Tryz.ntmps33 rfl ?_
    (repeat' first|(refine Ka ?_;first|refine Kb ?_|(refine Kc ?_;intro _))|refine Kd ?_|(refine Ki ?_;refine Kj ?_)|exact Kk|refine Kl ?_ ?_|(refine Km ?_;first|refine Kn ?_|(refine Ko ?_;intro _))|(refine Kp ?_;first|refine Kq ?_|refine Kr ?_)|refine Kh ?_)
    (refine Post.ra ?_)
  · rename_i b1 b2
    refine ⟨_,⟨b1,b2,rfl,rfl⟩,?_⟩
    refine Ents.trans (Ents.clW (n:=4) (cap:=4) cV3 (shapeF 0) rfl rfl rfl) ?_
    refine Ents.trans (Ents.perm (List.Perm.swap _ _ _)) ?_
    exact Ents.clW (n:=4) (cap:=4) cV3 (shapeP 0) rfl rfl rfl
  · rename_i b1 b2
    refine ⟨_,⟨b1,b2,rfl,rfl⟩,?_⟩
    refine Ents.trans (Ents.clW (n:=8) (cap:=8) cV3 (shapeF 1) rfl rfl rfl) ?_
    refine Ents.trans (Ents.perm (List.Perm.swap _ _ _)) ?_
    exact Ents.clW (n:=6) (cap:=6) cV3 (shapeP 1) rfl rfl rfl
  · rename_i b1 b2
    refine ⟨_,⟨b1,b2,rfl,rfl⟩,?_⟩
    refine Ents.trans (Ents.clW (n:=12) (cap:=12) cV3 (shapeF 2) rfl rfl rfl) ?_
    refine Ents.trans (Ents.perm (List.Perm.swap _ _ _)) ?_
    exact Ents.clW (n:=8) (cap:=8) cV3 (shapeP 2) rfl rfl rfl
  · rename_i b1 b2
    refine ⟨_,⟨b1,b2,rfl,rfl⟩,?_⟩
    refine Ents.trans (Ents.clW (n:=12) (cap:=12) cV3 (shapeF 3) rfl rfl rfl) ?_
    refine Ents.trans (Ents.perm (List.Perm.swap _ _ _)) ?_
    exact Ents.clW (n:=8) (cap:=8) cV3 (shapeP 3) rfl rfl rfl
def MeshV (As:List Ent) (r:List V3 × List V3) (v:Value) (Bs:List Ent):Prop:=∃ pv fv,v=.agg #[pv,fv]∧pv.oneCell'=true∧fv.oneCell'=true∧Bs=.ow cV3 31 pv r.1::.ow cV3 31 fv r.2::As
set_option maxRecDepth 100000 in
set_option maxHeartbeats 4000000 in
theorem draft_ok {kd sz a0 a1 a2:Int} {ov:Value} {off:List Int} {tn:Bool} (hkd:0≤kd∧kd≤255) (hsz:0≤sz∧sz≤255) (h0:-32768≤a0∧a0≤32767) (h1:-32768≤a1∧a1≤32767) (h2:-32768≤a2∧a2≤32767)
    (ho:∀ x∈off,-128≤x∧x≤127) (hol:off.length≤9223372036854775807) [RdIn As ov Int (cI .i8) off] :
    CallsS Tryz.prog w0 10 [.agg #[.int .u8 kd,.int .u8 sz,.int .i16 a0,.int .i16 a1,.int .i16 a2,ov,.bool tn]] As (MeshV As (draftM (kd % 4).toNat (1000+100 * sz) ⟨a0,a1,a2⟩ off tn)):=by
  refine CallsS.rdOne ov fun hov=>?_
  refine CallsS.of_tri Tryz.func10 rfl Tryz.ntmps10 rfl ?_
  obtain ⟨k,hk,hk4⟩:∃ k:Nat,kd % 4=(k:Int)∧k < 4:=⟨(kd % 4).toNat,by omega,by omega⟩
  have hd:=h0
  (repeat' first|(refine Ka ?_;first|refine Kb ?_|(refine Kc ?_;intro _))|refine Kd ?_|refine Kh ?_)
  rename_i b1 b2
  rw [hk,Int.toNat_natCast]
  refine TL.call rfl rfl rfl (shape_ok hk4) ?_
  rintro _ _ ⟨bp,bf,rfl,rfl⟩
  have hpl:=shapeP_len (k:=k)
  have hfl:=shapeF_len (k:=k)
  have hin:=shapeP_in (k:=k)
  generalize hP:shapeP k=P at hpl hin ⊢
  have hin9:∀ p∈P,-3≤p.x∧p.x≤3∧-3≤p.y∧p.y≤3∧-3≤p.z∧p.z≤3:=hin
  obtain ⟨s,hs⟩:∃ s:Int,s=1000+100 * sz:=⟨_,rfl⟩
  have hs1:1000≤s∧s≤26500:=by omega
  (repeat' first|(refine Ka ?_;first|refine Kb ?_|(refine Kc ?_;intro _))|refine Kd ?_|refine Kh ?_)
  rename_i b6 b7
  rw [← hs]
  refine Tri.ents (Ents.nilW (T:=31) cV3) ?_
  refine Tri.ents (Ents.nilW (T:=31) cV3) ?_
  obtain ⟨L,hL⟩:∃ L,L=P.map (V3.lay s ⟨a0,a1,a2⟩):=⟨_,rfl⟩
  have hLl:L.length=P.length:=by rw [hL];simp
  refine Tri.loop (ι:=Nat × (Option Addr × Nat) × Option Addr × Nat) (fun s=>s.1≤P.length) (fun s=>P.length - s.1)
    (fun x=>[(1,.pointer (some ⟨b1,0,none⟩)),(2,.pointer (some ⟨b2,0,none⟩)),(3,.slice (some ⟨bp,0,none⟩) P.length P.length),(4,.slice (some ⟨bf,0,none⟩) (shapeF k).length (shapeF k).length),(5,.int .i64 s),(6,.pointer (some ⟨b6,0,none⟩)),(7,.pointer (some ⟨b7,0,none⟩)),(8,.int .i64 x.1)])
    (fun x=>.ow cV3 31 (.slice x.2.1.1 x.1 x.2.1.2) (L.take x.1)::.ow cV3 31 (.slice x.2.2.1 x.1 x.2.2.2) ((L.take x.1).mapIdx (offP off))::.cl b7 [.slice x.2.1.1 x.1 x.2.1.2,.slice none 0 0] 34::.cl b6 [.slice x.2.2.1 x.1 x.2.2.2,.slice none 0 0] 34 ::
      .ow cV3 31 (.slice (some ⟨bp,0,none⟩) P.length P.length) P::.ow cV3 31 (.slice (some ⟨bf,0,none⟩) (shapeF k).length (shapeF k).length) (shapeF k) ::
      .cl b2 [.slice none 0 0,.slice none 0 0] 34::.cl b1 [.int .u8 kd,.int .u8 sz,.int .i16 a0,.int .i16 a1,.int .i16 a2,ov,.bool tn] 26::As) (0,(none,0),none,0) (by simp) (by (exact Sub.au)) (by simp only [List.take_zero,List.mapIdx_nil];(exact Ents.au)) ?_
  rintro ⟨i,⟨q1,c1⟩,q2,c2⟩ hil
  simp only at hil
  have hl1:(L.take i).length=i:=by simp;omega
  have hl2:((L.take i).mapIdx (offP off)).length=i:=by simp;omega
  generalize hx1:L.take i=X1 at hl1 hl2 ⊢
  generalize hx2:X1.mapIdx (offP off)=X2 at hl2 ⊢
  show Tri _ _ _ _ [(1,_),(2,_),(3,_),(4,_),(5,_),(6,_),(7,_),(8,.int .i64 (i:Int))] (.ow cV3 31 (.slice q1 i c1) X1::.ow cV3 31 (.slice q2 i c2) X2::.cl b7 [.slice q1 i c1,_] 34::.cl b6 [.slice q2 i c2,_] 34::_) _
  (repeat' first|(refine Ka ?_;first|refine Kb ?_|(refine Kc ?_;intro _))|refine Kd ?_|refine Kh ?_)
  ((show Tri _ _ _ (.cond _ _ _) _ _ _;first|refine Tri.condP rfl (fun hc=>?_) (fun hc=>?_)|refine Tri.condN rfl (fun hc=>?_) (fun hc=>?_)))
  · obtain ⟨p,hp⟩:∃ p,P[i]?=some p:=⟨_,List.getElem?_eq_getElem (by omega)⟩
    obtain ⟨g1,g2,g3,g4,g5,g6⟩:=hin9 p (List.mem_of_getElem? hp)
    have m1:=mul_in (m:=3) (n:=26500) (by decide) (by decide) g1 g2 (by omega:-26500≤s) hs1.2
    have m2:=mul_in (m:=3) (n:=26500) (by decide) (by decide) g3 g4 (by omega:-26500≤s) hs1.2
    have m3:=mul_in (m:=3) (n:=26500) (by decide) (by decide) g5 g6 (by omega:-26500≤s) hs1.2
    (repeat' first|(refine Ka ?_;first|refine Kb ?_|(refine Kc ?_;intro _))|refine Kd ?_|refine Kh ?_)
    rename_i b9
    refine Tri.unroll 4 ?_
    iterate 3
      (repeat' first|(refine Ka ?_;first|refine Kb ?_|(refine Kc ?_;intro _))|refine Kd ?_|(refine Ki ?_;refine Kj ?_)|exact Kk|refine Kl ?_ ?_|(refine Km ?_;first|refine Kn ?_|(refine Ko ?_;intro _))|(refine Kp ?_;first|refine Kq ?_|refine Kr ?_)|refine Kh ?_)
      refine Tri.dr (.take 0 (.take 1 (.take 2 (.take 3 (.take 4 (.take 5 (.take 6 (.take 7 (.take 8 (.take 9 (.take 10 (.take 11 (.take 12 (.all [(13,.done)])))))))))))))) ?_
    (repeat' first|(refine Ka ?_;first|refine Kb ?_|(refine Kc ?_;intro _))|refine Kd ?_|(refine Ki ?_;refine Kj ?_)|exact Kk|refine Kl ?_ ?_|(refine Km ?_;first|refine Kn ?_|(refine Ko ?_;intro _))|(refine Kp ?_;first|refine Kq ?_|refine Kr ?_)|refine Kh ?_)
    rename_i u1
    refine Tri.rdSl u1 ?_
    have ll1:(X1++[(⟨p.x * s+a0,p.y * s+a1,p.z * s+a2⟩:V3)]).length=i+1:=by simp [hl1]
    rw [ll1]
    rintro p8 c8 rfl
    have hLi:L[i]?=some ⟨p.x * s+a0,p.y * s+a1,p.z * s+a2⟩:=by rw [hL,List.getElem?_map,hp];rfl
    refine Tri.unroll 4 ?_
    by_cases t0:off.length≤3 * i
    · have o0:off[3 * i]?=none:=List.getElem?_eq_none t0
      have o1:off[3 * i+1]?=none:=List.getElem?_eq_none (by omega)
      have o2:off[3 * i+2]?=none:=List.getElem?_eq_none (by omega)
      (repeat' first|(refine Ka ?_;first|refine Kb ?_|(refine Kc ?_;intro _))|refine Kd ?_|(refine Ki ?_;refine Kj ?_)|exact Kk|refine Kl ?_ ?_|(refine Km ?_;first|refine Kn ?_|(refine Ko ?_;intro _))|(refine Kp ?_;first|refine Kq ?_|refine Kr ?_)|refine Kh ?_)
      rename_i u2
      refine Post.rdSl u2 ?_
      rw [show (X2++[(⟨p.x * s+a0,p.y * s+a1,p.z * s+a2⟩:V3)]).length=i+1 by simp [hl2]]
      rintro p9 c9 rfl
      refine Post.round (i+1,(p8,c8),p9,c9) (by simp only;omega) (by simp only;omega) (by (exact Sub.au)) ?_
      show Ents _ (.ow cV3 _ (.slice p8 (i+1) c8) (L.take (i+1))::.ow cV3 _ (.slice p9 (i+1) c9) ((L.take (i+1)).mapIdx (offP off))::.cl b7 [.slice p8 (i+1) c8,_] _::.cl b6 [.slice p9 (i+1) c9,_] _::_)
      rw [mapIdx_take_succ hLi,hx1,hx2,List.take_add_one,hLi,hx1,show offP off i ⟨p.x * s+a0,p.y * s+a1,p.z * s+a2⟩=⟨p.x * s+a0,p.y * s+a1,p.z * s+a2⟩ by simp [offP,o0,o1,o2]]
      simp only [Option.toList_some]
      (exact Ents.au)
    obtain ⟨x0,o0⟩:∃ x,off[3 * i]?=some x:=⟨_,List.getElem?_eq_getElem (by omega)⟩
    have y0:=ho x0 (List.mem_of_getElem? o0)
    by_cases t1:off.length≤3 * i+1
    · have o1:off[3 * i+1]?=none:=List.getElem?_eq_none t1
      have o2:off[3 * i+2]?=none:=List.getElem?_eq_none (by omega)
      (repeat' first|(refine Ka ?_;first|refine Kb ?_|(refine Kc ?_;intro _))|refine Kd ?_|refine Kh ?_)
      refine Tri.dr (.take 0 (.take 1 (.take 2 (.take 3 (.take 4 (.take 5 (.take 6 (.take 7 (.take 8 (.take 9 (.take 10 (.take 11 (.take 12 (.take 13 (.take 14 (.all [(15,.done)])))))))))))))))) ?_
      (repeat' first|(refine Ka ?_;first|refine Kb ?_|(refine Kc ?_;intro _))|refine Kd ?_|(refine Ki ?_;refine Kj ?_)|exact Kk|refine Kl ?_ ?_|(refine Km ?_;first|refine Kn ?_|(refine Ko ?_;intro _))|(refine Kp ?_;first|refine Kq ?_|refine Kr ?_)|refine Kh ?_)
      rw [show (3 * (i:Int)+0)=((3 * i:Nat):Int) by omega]
      (repeat' first|(refine Ka ?_;first|refine Kb ?_|(refine Kc ?_;intro _))|refine Kd ?_|(refine Ki ?_;refine Kj ?_)|exact Kk|refine Kl ?_ ?_|(refine Km ?_;first|refine Kn ?_|(refine Ko ?_;intro _))|(refine Kp ?_;first|refine Kq ?_|refine Kr ?_)|refine Kh ?_)
      rename_i u2
      refine Post.rdSl u2 ?_
      rw [show (X2++[(⟨p.x * s+a0+x0,p.y * s+a1,p.z * s+a2⟩:V3)]).length=i+1 by simp [hl2]]
      rintro p9 c9 rfl
      refine Post.round (i+1,(p8,c8),p9,c9) (by simp only;omega) (by simp only;omega) (by (exact Sub.au)) ?_
      show Ents _ (.ow cV3 _ (.slice p8 (i+1) c8) (L.take (i+1))::.ow cV3 _ (.slice p9 (i+1) c9) ((L.take (i+1)).mapIdx (offP off))::.cl b7 [.slice p8 (i+1) c8,_] _::.cl b6 [.slice p9 (i+1) c9,_] _::_)
      rw [mapIdx_take_succ hLi,hx1,hx2,List.take_add_one,hLi,hx1,show offP off i ⟨p.x * s+a0,p.y * s+a1,p.z * s+a2⟩=⟨p.x * s+a0+x0,p.y * s+a1,p.z * s+a2⟩ by simp [offP,o0,o1,o2]]
      simp only [Option.toList_some]
      (exact Ents.au)
    obtain ⟨x1,o1⟩:∃ x,off[3 * i+1]?=some x:=⟨_,List.getElem?_eq_getElem (by omega)⟩
    have y1:=ho x1 (List.mem_of_getElem? o1)
    by_cases t2:off.length≤3 * i+2
    · have o2:off[3 * i+2]?=none:=List.getElem?_eq_none t2
      (repeat' first|(refine Ka ?_;first|refine Kb ?_|(refine Kc ?_;intro _))|refine Kd ?_|(refine Ki ?_;refine Kj ?_)|exact Kk|refine Kl ?_ ?_|(refine Km ?_;first|refine Kn ?_|(refine Ko ?_;intro _))|(refine Kp ?_;first|refine Kq ?_|refine Kr ?_)|refine Kh ?_)
      refine Tri.dr (.take 0 (.take 1 (.take 2 (.take 3 (.take 4 (.take 5 (.take 6 (.take 7 (.take 8 (.take 9 (.take 10 (.take 11 (.take 12 (.take 13 (.take 14 (.all [(15,.done)])))))))))))))))) ?_
      (repeat' first|(refine Ka ?_;first|refine Kb ?_|(refine Kc ?_;intro _))|refine Kd ?_|(refine Ki ?_;refine Kj ?_)|exact Kk|refine Kl ?_ ?_|(refine Km ?_;first|refine Kn ?_|(refine Ko ?_;intro _))|(refine Kp ?_;first|refine Kq ?_|refine Kr ?_)|refine Kh ?_)
      rw [show (3 * (i:Int)+0)=((3 * i:Nat):Int) by omega]
      (repeat' first|(refine Ka ?_;first|refine Kb ?_|(refine Kc ?_;intro _))|refine Kd ?_|(refine Ki ?_;refine Kj ?_)|exact Kk|refine Kl ?_ ?_|(refine Km ?_;first|refine Kn ?_|(refine Ko ?_;intro _))|(refine Kp ?_;first|refine Kq ?_|refine Kr ?_)|refine Kh ?_)
      refine Tri.dr (.take 0 (.take 1 (.take 2 (.take 3 (.take 4 (.take 5 (.take 6 (.take 7 (.take 8 (.take 9 (.take 10 (.take 11 (.take 12 (.take 13 (.take 14 (.all [(15,.done)])))))))))))))))) ?_
      (repeat' first|(refine Ka ?_;first|refine Kb ?_|(refine Kc ?_;intro _))|refine Kd ?_|(refine Ki ?_;refine Kj ?_)|exact Kk|refine Kl ?_ ?_|(refine Km ?_;first|refine Kn ?_|(refine Ko ?_;intro _))|(refine Kp ?_;first|refine Kq ?_|refine Kr ?_)|refine Kh ?_)
      rw [show (3 * (i:Int)+(0+1))=((3 * i+1:Nat):Int) by omega]
      (repeat' first|(refine Ka ?_;first|refine Kb ?_|(refine Kc ?_;intro _))|refine Kd ?_|(refine Ki ?_;refine Kj ?_)|exact Kk|refine Kl ?_ ?_|(refine Km ?_;first|refine Kn ?_|(refine Ko ?_;intro _))|(refine Kp ?_;first|refine Kq ?_|refine Kr ?_)|refine Kh ?_)
      rename_i u2
      refine Post.rdSl u2 ?_
      rw [show (X2++[(⟨p.x * s+a0+x0,p.y * s+a1+x1,p.z * s+a2⟩:V3)]).length=i+1 by simp [hl2]]
      rintro p9 c9 rfl
      refine Post.round (i+1,(p8,c8),p9,c9) (by simp only;omega) (by simp only;omega) (by (exact Sub.au)) ?_
      show Ents _ (.ow cV3 _ (.slice p8 (i+1) c8) (L.take (i+1))::.ow cV3 _ (.slice p9 (i+1) c9) ((L.take (i+1)).mapIdx (offP off))::.cl b7 [.slice p8 (i+1) c8,_] _::.cl b6 [.slice p9 (i+1) c9,_] _::_)
      rw [mapIdx_take_succ hLi,hx1,hx2,List.take_add_one,hLi,hx1,show offP off i ⟨p.x * s+a0,p.y * s+a1,p.z * s+a2⟩=⟨p.x * s+a0+x0,p.y * s+a1+x1,p.z * s+a2⟩ by simp [offP,o0,o1,o2]]
      simp only [Option.toList_some]
      (exact Ents.au)
    · obtain ⟨x2,o2⟩:∃ x,off[3 * i+2]?=some x:=⟨_,List.getElem?_eq_getElem (by omega)⟩
      have y2:=ho x2 (List.mem_of_getElem? o2)
      (repeat' first|(refine Ka ?_;first|refine Kb ?_|(refine Kc ?_;intro _))|refine Kd ?_|(refine Ki ?_;refine Kj ?_)|exact Kk|refine Kl ?_ ?_|(refine Km ?_;first|refine Kn ?_|(refine Ko ?_;intro _))|(refine Kp ?_;first|refine Kq ?_|refine Kr ?_)|refine Kh ?_)
      refine Tri.dr (.take 0 (.take 1 (.take 2 (.take 3 (.take 4 (.take 5 (.take 6 (.take 7 (.take 8 (.take 9 (.take 10 (.take 11 (.take 12 (.take 13 (.take 14 (.all [(15,.done)])))))))))))))))) ?_
      (repeat' first|(refine Ka ?_;first|refine Kb ?_|(refine Kc ?_;intro _))|refine Kd ?_|(refine Ki ?_;refine Kj ?_)|exact Kk|refine Kl ?_ ?_|(refine Km ?_;first|refine Kn ?_|(refine Ko ?_;intro _))|(refine Kp ?_;first|refine Kq ?_|refine Kr ?_)|refine Kh ?_)
      rw [show (3 * (i:Int)+0)=((3 * i:Nat):Int) by omega]
      (repeat' first|(refine Ka ?_;first|refine Kb ?_|(refine Kc ?_;intro _))|refine Kd ?_|(refine Ki ?_;refine Kj ?_)|exact Kk|refine Kl ?_ ?_|(refine Km ?_;first|refine Kn ?_|(refine Ko ?_;intro _))|(refine Kp ?_;first|refine Kq ?_|refine Kr ?_)|refine Kh ?_)
      refine Tri.dr (.take 0 (.take 1 (.take 2 (.take 3 (.take 4 (.take 5 (.take 6 (.take 7 (.take 8 (.take 9 (.take 10 (.take 11 (.take 12 (.take 13 (.take 14 (.all [(15,.done)])))))))))))))))) ?_
      (repeat' first|(refine Ka ?_;first|refine Kb ?_|(refine Kc ?_;intro _))|refine Kd ?_|(refine Ki ?_;refine Kj ?_)|exact Kk|refine Kl ?_ ?_|(refine Km ?_;first|refine Kn ?_|(refine Ko ?_;intro _))|(refine Kp ?_;first|refine Kq ?_|refine Kr ?_)|refine Kh ?_)
      rw [show (3 * (i:Int)+(0+1))=((3 * i+1:Nat):Int) by omega]
      (repeat' first|(refine Ka ?_;first|refine Kb ?_|(refine Kc ?_;intro _))|refine Kd ?_|(refine Ki ?_;refine Kj ?_)|exact Kk|refine Kl ?_ ?_|(refine Km ?_;first|refine Kn ?_|(refine Ko ?_;intro _))|(refine Kp ?_;first|refine Kq ?_|refine Kr ?_)|refine Kh ?_)
      refine Tri.dr (.take 0 (.take 1 (.take 2 (.take 3 (.take 4 (.take 5 (.take 6 (.take 7 (.take 8 (.take 9 (.take 10 (.take 11 (.take 12 (.take 13 (.take 14 (.all [(15,.done)])))))))))))))))) ?_
      (repeat' first|(refine Ka ?_;first|refine Kb ?_|(refine Kc ?_;intro _))|refine Kd ?_|(refine Ki ?_;refine Kj ?_)|exact Kk|refine Kl ?_ ?_|(refine Km ?_;first|refine Kn ?_|(refine Ko ?_;intro _))|(refine Kp ?_;first|refine Kq ?_|refine Kr ?_)|refine Kh ?_)
      rw [show (3 * (i:Int)+(0+1+1))=((3 * i+2:Nat):Int) by omega]
      (repeat' first|(refine Ka ?_;first|refine Kb ?_|(refine Kc ?_;intro _))|refine Kd ?_|(refine Ki ?_;refine Kj ?_)|exact Kk|refine Kl ?_ ?_|(refine Km ?_;first|refine Kn ?_|(refine Ko ?_;intro _))|(refine Kp ?_;first|refine Kq ?_|refine Kr ?_)|refine Kh ?_)
      rename_i u2
      refine Post.rdSl u2 ?_
      rw [show (X2++[(⟨p.x * s+a0+x0,p.y * s+a1+x1,p.z * s+a2+x2⟩:V3)]).length=i+1 by simp [hl2]]
      rintro p9 c9 rfl
      refine Post.round (i+1,(p8,c8),p9,c9) (by simp only;omega) (by simp only;omega) (by (exact Sub.au)) ?_
      show Ents _ (.ow cV3 _ (.slice p8 (i+1) c8) (L.take (i+1))::.ow cV3 _ (.slice p9 (i+1) c9) ((L.take (i+1)).mapIdx (offP off))::.cl b7 [.slice p8 (i+1) c8,_] _::.cl b6 [.slice p9 (i+1) c9,_] _::_)
      rw [mapIdx_take_succ hLi,hx1,hx2,List.take_add_one,hLi,hx1,show offP off i ⟨p.x * s+a0,p.y * s+a1,p.z * s+a2⟩=⟨p.x * s+a0+x0,p.y * s+a1+x1,p.z * s+a2+x2⟩ by simp [offP,o0,o1,o2]]
      simp only [Option.toList_some]
      (exact Ents.au)
  · (repeat' first|(refine Ka ?_;first|refine Kb ?_|(refine Kc ?_;intro _))|refine Kd ?_|(refine Ki ?_;refine Kj ?_)|exact Kk|refine Kl ?_ ?_|(refine Km ?_;first|refine Kn ?_|(refine Ko ?_;intro _))|(refine Kp ?_;first|refine Kq ?_|refine Kr ?_)|refine Kh ?_)
    have hi':i=P.length:=by omega
    rw [hi',← hLl,List.take_length] at hx1
    subst hx1
    have hk6:(shapeF k).length≤12:=hfl.2
    refine TL.call rfl rfl rfl chkR35_ok ?_
    rintro _ _ ⟨rfl,rfl⟩
    have hLP:L=plainM k s ⟨a0,a1,a2⟩:=by rw [hL,plainM,hP]
    have hX2:X2=offM off (plainM k s ⟨a0,a1,a2⟩):=by rw [← hx2,hLP,offM]
    (repeat' first|(refine Ka ?_;first|refine Kb ?_|(refine Kc ?_;intro _))|refine Kd ?_|refine Kh ?_)
    refine Tri.mid (fun e' As'=>∃ u,e'=[(1,.pointer (some ⟨b1,0,none⟩)),(2,.pointer (some ⟨b2,0,none⟩)),(6,.pointer (some ⟨b6,0,none⟩))]∧u.oneCell'=true ∧
      As'=.ow cV3 31 u (baseM k s ⟨a0,a1,a2⟩ off)::.ow cV3 31 (.slice (some ⟨bf,0,none⟩) (shapeF k).length (shapeF k).length) (shapeF k)::.cl b6 [u,.slice (some ⟨bf,0,none⟩) (shapeF k).length (shapeF k).length] 34::.cl b2 [.slice none 0 0,.slice none 0 0] 34::.cl b1 [.int .u8 kd,.int .u8 sz,.int .i16 a0,.int .i16 a1,.int .i16 a2,ov,.bool tn] 26::As) ?_ ?_
    · ((show Tri _ _ _ (.cond _ _ _) _ _ _;first|refine Tri.condP rfl (fun hc=>?_) (fun hc=>?_)|refine Tri.condN rfl (fun hc=>?_) (fun hc=>?_)))
      · obtain ⟨h1,h2⟩:=chk_no hc
        (repeat' first|(refine Ka ?_;first|refine Kb ?_|(refine Kc ?_;intro _))|refine Kd ?_|refine Kh ?_)
        refine Post.cut _ _ ⟨.slice q1 i c1,rfl,rfl,rfl⟩ (by (exact Sub.au)) ?_
        rw [baseM,if_neg (by rw [← hX2];exact h1),← hLP]
        (exact Ents.au)
      · have h1:=chk_ok hc
        (repeat' first|(refine Ka ?_;first|refine Kb ?_|(refine Kc ?_;intro _))|refine Kd ?_|refine Kh ?_)
        refine Post.cut _ _ ⟨.slice q2 i c2,rfl,rfl,rfl⟩ (by (exact Sub.au)) ?_
        rw [baseM,if_pos (by rw [← hX2];exact h1),← hX2]
        (exact Ents.au)
    · rintro _ _ ⟨u,rfl,hu,rfl⟩
      have hd0:draftM k s ⟨a0,a1,a2⟩ off tn=if tn then (turnedM (baseM k s ⟨a0,a1,a2⟩ off) (shapeF k)).2 else (baseM k s ⟨a0,a1,a2⟩ off,shapeF k):=rfl
      rw [hd0]
      generalize baseM k s ⟨a0,a1,a2⟩ off=B
      (repeat' first|(refine Ka ?_;first|refine Kb ?_|(refine Kc ?_;intro _))|refine Kd ?_|refine Kh ?_)
      cases tn
      · (repeat' first|(refine Ka ?_;first|refine Kb ?_|(refine Kc ?_;intro _))|refine Kd ?_|refine Kh ?_)
        (refine Post.ra ?_)
        exact ⟨_,⟨_,_,rfl,hu,rfl,rfl⟩,by simp only [Bool.false_eq_true,if_false];(exact Ents.au)⟩
      · (repeat' first|(refine Ka ?_;first|refine Kb ?_|(refine Kc ?_;intro _))|refine Kd ?_|refine Kh ?_)
        refine TL.call rfl rfl rfl turnedR_ok ?_
        rintro _ _ ⟨pv,fv,rfl,hpv,hfv,rfl⟩
        (repeat' first|(refine Ka ?_;first|refine Kb ?_|(refine Kc ?_;intro _))|refine Kd ?_|refine Kh ?_)
        (refine Post.ra ?_)
        exact ⟨_,⟨_,_,rfl,hpv,hfv,rfl⟩,by simp only [if_true];(exact Ents.au)⟩
end Go.Proofs.YtgapnfaakdjpaaaGreatDoor
namespace Go.Proofs.YtgapnfaakdjpaaaGreatDoor
open Go Go.Sx
variable {w0:World} {As:List Ent} {pv fv:Value} {pts fcs:List V3}
def grownV (b off n cap k:Nat) (o:Option (Option Addr × Nat)):Value:=match o with
  | none=>.slice (some ⟨b,off,none⟩) (n+k) cap
  | some (q,cp)=>.slice q (n+k) cp
def grownE (b off cap:Nat) (xs:List V3) (k:Nat) (zs:List V3) (o:Option (Option Addr × Nat)) (R:List Ent):List Ent:=match o with
  | none=>.ow cV3 31 (.slice (some ⟨b,off,none⟩) (xs.length+k) cap) (xs++zs)::R
  | some (q,cp)=>.ow cV3 31 (.slice q (xs.length+k) cp) (xs++zs)::.ow cV3 31 (.slice (some ⟨b,off,none⟩) xs.length cap) xs::R
def BendR (As:List Ent) (what:Nat) (pts fcs:List V3) (v:Value) (Bs:List Ent):Prop:=∃ pv fv P F,v=.agg #[pv,fv]∧pv.oneCell'=true∧fv.oneCell'=true∧BendOk what pts fcs P F∧Bs=.ow cV3 31 pv P::.ow cV3 31 fv F::As
end Go.Proofs.YtgapnfaakdjpaaaGreatDoor
namespace Go.Proofs.YtgapnfaakdjpaaaGreatDoor
open Go Go.Sx
variable {w0:World} {As:List Ent}
end Go.Proofs.YtgapnfaakdjpaaaGreatDoor
namespace Go.Proofs.YtgapnfaakdjpaaaGreatDoor
open Go Go.Sx
variable {w0:World} {As:List Ent} {pv fv:Value} {pts fcs:List V3}
structure DraftA where
  kd:Int
  sz:Int
  a0:Int
  a1:Int
  a2:Int
  ov:Value
  off:List Int
  tn:Bool
def DraftA.ok (d:DraftA):Prop:=(0≤d.kd∧d.kd≤255)∧(0≤d.sz∧d.sz≤255)∧(-32768≤d.a0∧d.a0≤32767)∧(-32768≤d.a1∧d.a1≤32767)∧(-32768≤d.a2∧d.a2≤32767)∧(∀ x∈d.off,-128≤x∧x≤127)∧d.off.length≤9223372036854775807
def DraftA.cells (d:DraftA):List Value:=[.int .u8 d.kd,.int .u8 d.sz,.int .i16 d.a0,.int .i16 d.a1,.int .i16 d.a2,d.ov,.bool d.tn]
def DraftA.mesh (d:DraftA):List V3 × List V3:=draftM (d.kd % 4).toNat (1000+100 * d.sz) ⟨d.a0,d.a1,d.a2⟩ d.off d.tn
structure BendA where
  wh:Int
  ta:Int
  to_:Int
  n:Int
def BendA.ok (b:BendA):Prop:=(0≤b.wh∧b.wh≤255)∧(0≤b.ta∧b.ta≤255)∧(0≤b.to_∧b.to_≤255)
theorem draftA_ok (d:DraftA) (h:d.ok) [RdIn As d.ov Int (cI .i8) d.off]:CallsS Tryz.prog w0 10 [.agg #[.int .u8 d.kd,.int .u8 d.sz,.int .i16 d.a0,.int .i16 d.a1,.int .i16 d.a2,d.ov,.bool d.tn]] As (MeshV As d.mesh):=by
  obtain ⟨h1,h2,h3,h4,h5,h6,h7⟩:=h
  exact draft_ok h1 h2 h3 h4 h5 h6 h7
def MeshesR (As:List Ent) (d:DraftA) (pts fcs:List V3) (v:Value) (Bs:List Ent):Prop:=∃ p0 f0 p1 f1 p2 f2 p3 f3,∃ P1 F1 P2 F2:List V3,v=.agg #[p0,f0,p1,f1,p2,f2,p3,f3] ∧
  p0.oneCell'=true∧f0.oneCell'=true∧p1.oneCell'=true∧f1.oneCell'=true∧p2.oneCell'=true∧f2.oneCell'=true∧p3.oneCell'=true∧f3.oneCell'=true ∧
  P1.length≤80∧F1.length≤80∧P2.length≤80∧F2.length≤80 ∧
  Bs=.ow cV3 31 p0 d.mesh.1::.ow cV3 31 f0 d.mesh.2::.ow cV3 31 p1 P1::.ow cV3 31 f1 F1::.ow cV3 31 p2 P2::.ow cV3 31 f2 F2::.ft (rd cV3 p3 (pts.take (min pts.length 30)))::.ft (rd cV3 f3 (fcs.take (min fcs.length 30)))::As
end Go.Proofs.YtgapnfaakdjpaaaGreatDoor
namespace Go.Sx
end Go.Sx
namespace Go.Proofs.YtgapnfaakdjpaaaGreatDoor
open Go Go.Sx
variable {w0:World} {As:List Ent} {pv fv:Value} {pts fcs:List V3}
theorem dotR_ok {p q:V3} {m n:Int} (hp:p.in m) (hq:q.in n) (g0:0≤m) (g1:0≤n) (hm:3 * (m * n)≤9223372036854775807) :
    CallsS Tryz.prog w0 89 [p.val,q.val] As fun v Bs=>v=.int .i64 (p.dot q)∧Bs=As:=by
  obtain ⟨h1,h2,h3,h4,h5,h6⟩:=hp
  obtain ⟨k1,k2,k3,k4,k5,k6⟩:=hq
  have a1:=mul_in g0 g1 h1 h2 k1 k2
  have a2:=mul_in g0 g1 h3 h4 k3 k4
  have a3:=mul_in g0 g1 h5 h6 k5 k6
  refine CallsS.of_tri Tryz.func89 rfl Tryz.ntmps89 rfl ?_
  (repeat' first|(refine Ka ?_;first|refine Kb ?_|(refine Kc ?_;intro _))|refine Kd ?_|refine Kh ?_)
  (refine Post.ra ?_)
  exact ⟨_,⟨rfl,rfl⟩,by (exact Ents.au)⟩
end Go.Proofs.YtgapnfaakdjpaaaGreatDoor
namespace Go.Proofs.YtgapnfaakdjpaaaGreatDoor
open Go Go.Sx
variable {w0:World} {As:List Ent} {pv fv:Value} {pts fcs:List V3}
instance one01:EncV cNv (.int .i64 (0+1)) 1:=⟨rfl⟩
theorem DraftA.good (d:DraftA) (h:d.ok):okM d.mesh.1 d.mesh.2:=by
  obtain ⟨h1,h2,h3,h4,h5,_⟩:=h
  exact draftM_ok (by omega) (by omega) (by omega) ⟨by simp only;omega,by simp only;omega,by simp only;omega,by simp only;omega,by simp only;omega,by simp only;omega⟩ _
end Go.Proofs.YtgapnfaakdjpaaaGreatDoor
