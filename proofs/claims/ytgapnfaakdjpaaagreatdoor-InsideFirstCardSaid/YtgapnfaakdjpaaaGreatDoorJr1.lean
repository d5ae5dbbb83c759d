/- Walks: the reference of the chapter on insides: determinants, corners, limits, errors. Walks: a place near a mesh. -/
import Derived.Test.YtgapnfaakdjpaaaGreatDoorIx7
import Derived.Test.YtgapnfaakdjpaaaGreatDoorMr1
import Derived.Test.YtgapnfaakdjpaaaGreatDoorMr5
namespace Go.Proofs.YtgapnfaakdjpaaaGreatDoor
open Go Go.Sx
variable {w0:World} {As:List Ent} {pv fv:Value} {pts fcs:List V3}
def chkW (P F:List V3) (p:V3):Int:=if (flawM P F).1≠0 then 350 else if isFar p then 2 else 0
end Go.Proofs.YtgapnfaakdjpaaaGreatDoor
namespace Go.Sx
open Go
structure PlaceA where
  a0:Int
  a1:Int
  a2:Int
  w0:Int
  w1:Int
  w2:Int
  o0:Int
  o1:Int
  o2:Int
def PlaceA.ok (x:PlaceA):Prop:=((0≤x.a0∧x.a0≤255)∧(0≤x.a1∧x.a1≤255)∧(0≤x.a2∧x.a2≤255))∧((0≤x.w0∧x.w0≤255)∧(0≤x.w1∧x.w1≤255)∧(0≤x.w2∧x.w2≤255))∧((-32768≤x.o0∧x.o0≤32767)∧(-32768≤x.o1∧x.o1≤32767)∧(-32768≤x.o2∧x.o2≤32767))
def PlaceA.cells (x:PlaceA):List Value:=[.int .u8 x.a0,.int .u8 x.a1,.int .u8 x.a2,.int .u8 x.w0,.int .u8 x.w1,.int .u8 x.w2,.int .i16 x.o0,.int .i16 x.o1,.int .i16 x.o2]
def clampI (v:Int):Int:=if -200000 < (if v < 200000 then v else 200000) then (if v < 200000 then v else 200000) else -200000
theorem clampV (v:Int):(if -200000 < (if v < 200000 then v else 200000) then (if v < 200000 then v else 200000) else -200000)=clampI v:=rfl
theorem clamp_in {v c:Int} (h:clampI v=c):-200000≤c∧c≤200000:=by
  subst h
  unfold clampI
  (repeat' split)<;>omega
end Go.Sx
namespace Go.Proofs.YtgapnfaakdjpaaaGreatDoor
open Go Go.Sx
variable {w0:World} {As:List Ent} {pv fv:Value} {pts fcs:List V3}
theorem point_ok {x:PlaceA} (hx:x.ok) (hg:Sx.Good pts fcs) [RdIn As pv V3 cV3 pts] :
    CallsS Tryz.prog w0 12 [.agg #[.int .u8 x.a0,.int .u8 x.a1,.int .u8 x.a2,.int .u8 x.w0,.int .u8 x.w1,.int .u8 x.w2,.int .i16 x.o0,.int .i16 x.o1,.int .i16 x.o2],.agg #[pv,fv]] As
      fun r Bs=>∃ p:V3,isFar p=false∧r=p.val∧Bs=As:=by
  refine CallsS.of_tri Tryz.func12 rfl Tryz.ntmps12 rfl ?_
  have hl:=hg.p300
  have hl4:=hg.p4
  have hfar:∀ q∈pts,q.in 200000:=fun q hq=>far_in (List.findIdx?_eq_none_iff.1 hg.far q hq)
  obtain ⟨⟨a0,a1,a2⟩,⟨u0,u1,u2⟩,⟨o0,o1,o2⟩⟩:=hx
  (repeat' first|(refine Ka ?_;first|refine Kb ?_|(refine Kc ?_;intro _))|refine Kd ?_|refine Kh ?_)
  rename_i b2 b3 b4 b5
  refine Tri.loop (ι:=Nat × V3 × Int) (fun s=>s.1≤3∧s.2.1.in (1400000 * (s.1:Int))∧0≤s.2.2∧s.2.2≤7 * (s.1:Int)) (fun s=>3 - s.1)
    (fun s=>[(2,.pointer (some ⟨b2,0,none⟩)),(3,.pointer (some ⟨b3,0,none⟩)),(4,.pointer (some ⟨b4,0,none⟩)),(5,.pointer (some ⟨b5,0,none⟩)),(6,.int .i64 s.2.2),(7,.int .i64 (s.1:Int))])
    (fun s=>.cl b5 [.int .i64 s.2.1.x,.int .i64 s.2.1.y,.int .i64 s.2.1.z] 31::.cl b4 [.int .i64 0,.int .i64 0,.int .i64 0] 31::.cl b3 [pv,fv] 34::.cl b2 [.int .u8 x.a0,.int .u8 x.a1,.int .u8 x.a2,.int .u8 x.w0,.int .u8 x.w1,.int .u8 x.w2,.int .i16 x.o0,.int .i16 x.o1,.int .i16 x.o2] 29::As) (0,V3.zero,0) ⟨by decide,by simp [V3.zero,V3.in],by decide,by decide⟩ (by (exact Sub.au)) (by show Ents _ (.cl b5 [.int .i64 0,.int .i64 0,.int .i64 0] _::_);(exact Ents.au)) ?_
  rintro ⟨i,s,n⟩ ⟨hi,hs,hn0,hn1⟩
  simp only at hi hs hn0 hn1
  show Tri _ _ _ _ [(2,_),(3,_),(4,_),(5,_),(6,.int .i64 n),(7,.int .i64 (i:Int))] (.cl b5 [.int .i64 s.x,.int .i64 s.y,.int .i64 s.z] _::_) _
  obtain ⟨s1,s2,s3,s4,s5,s6⟩:=hs
  rcases (show i=0∨i=1∨i=2∨i=3 by omega) with rfl|rfl|rfl|rfl
  · have hW:0≤x.w0 % 8∧x.w0 % 8≤7:=by omega
    have hj0:=Int.emod_nonneg x.a0 (show (pts.length:Int)≠0 by omega)
    have hj1:=Int.emod_lt_of_pos x.a0 (show (0:Int) < pts.length by omega)
    obtain ⟨j,hj⟩:∃ j:Nat,x.a0 % (pts.length:Int)=(j:Int):=⟨(x.a0 % (pts.length:Int)).toNat,(Int.toNat_of_nonneg hj0).symm⟩
    rw [hj] at hj0 hj1
    obtain ⟨q,hq⟩:∃ q,pts[j]?=some q:=⟨_,List.getElem?_eq_getElem (by omega)⟩
    obtain ⟨q1,q2,q3,q4,q5,q6⟩:=hfar q (List.mem_of_getElem? hq)
    (repeat' first|(refine Ka ?_;first|refine Kb ?_|(refine Kc ?_;intro _))|refine Kd ?_|refine Kh ?_)
    generalize x.w0 % 8=W at *
    have m1:=mul_in (m:=7) (n:=200000) (by decide) (by decide) (show -7≤W by omega) hW.2 q1 q2
    have m2:=mul_in (m:=7) (n:=200000) (by decide) (by decide) (show -7≤W by omega) hW.2 q3 q4
    have m3:=mul_in (m:=7) (n:=200000) (by decide) (by decide) (show -7≤W by omega) hW.2 q5 q6
    refine Tri.dw (.cl b3 [pv,fv] 34::.cl b2 [.int .u8 x.a0,.int .u8 x.a1,.int .u8 x.a2,.int .u8 x.w0,.int .u8 x.w1,.int .u8 x.w2,.int .i16 x.o0,.int .i16 x.o1,.int .i16 x.o2] 29::As) [] (.take 0 (.take 1 (.take 2 (.take 3 (.take 4 (.take 5 (.take 6 (.take 7 (.take 8 (.take 9 (.take 10 (.take 11 (.take 12 (.all [(13,.all [(14,.done)])])))))))))))))) ?_
    (repeat' first|(refine Ka ?_;first|refine Kb ?_|(refine Kc ?_;intro _))|refine Kd ?_|(refine Ki ?_;refine Kj ?_)|exact Kk|refine Kl ?_ ?_|(refine Km ?_;first|refine Kn ?_|(refine Ko ?_;intro _))|(refine Kp ?_;first|refine Kq ?_|refine Kr ?_)|refine Kh ?_)
    rw [hj]
    (repeat' first|(refine Ka ?_;first|refine Kb ?_|(refine Kc ?_;intro _))|refine Kd ?_|(refine Ki ?_;refine Kj ?_)|exact Kk|refine Kl ?_ ?_|(refine Km ?_;first|refine Kn ?_|(refine Ko ?_;intro _))|(refine Kp ?_;first|refine Kq ?_|refine Kr ?_)|refine Kh ?_)
    refine Tri.unroll 4 ?_
    iterate 3
      (repeat' first|(refine Ka ?_;first|refine Kb ?_|(refine Kc ?_;intro _))|refine Kd ?_|(refine Ki ?_;refine Kj ?_)|exact Kk|refine Kl ?_ ?_|(refine Km ?_;first|refine Kn ?_|(refine Ko ?_;intro _))|(refine Kp ?_;first|refine Kq ?_|refine Kr ?_)|refine Kh ?_)
      refine Tri.dr (.take 0 (.take 1 (.take 2 (.take 3 (.take 4 (.take 5 (.take 6 (.take 7 (.take 8 (.take 9 (.take 10 (.all [(11,.done)])))))))))))) ?_
    (repeat' first|(refine Ka ?_;first|refine Kb ?_|(refine Kc ?_;intro _))|refine Kd ?_|(refine Ki ?_;refine Kj ?_)|exact Kk|refine Kl ?_ ?_|(refine Km ?_;first|refine Kn ?_|(refine Ko ?_;intro _))|(refine Kp ?_;first|refine Kq ?_|refine Kr ?_)|refine Kh ?_)
    refine Post.round (1,⟨s.x+W * q.x,s.y+W * q.y,s.z+W * q.z⟩,n+W) ⟨by simp only;omega,⟨by simp only;omega,by simp only;omega,by simp only;omega,by simp only;omega,by simp only;omega,by simp only;omega⟩,by simp only;omega,by simp only;omega⟩ (by simp only;omega) (by (exact Sub.au)) (by (exact Ents.au))
  · have hW:0≤x.w1 % 8∧x.w1 % 8≤7:=by omega
    have hj0:=Int.emod_nonneg x.a1 (show (pts.length:Int)≠0 by omega)
    have hj1:=Int.emod_lt_of_pos x.a1 (show (0:Int) < pts.length by omega)
    obtain ⟨j,hj⟩:∃ j:Nat,x.a1 % (pts.length:Int)=(j:Int):=⟨(x.a1 % (pts.length:Int)).toNat,(Int.toNat_of_nonneg hj0).symm⟩
    rw [hj] at hj0 hj1
    obtain ⟨q,hq⟩:∃ q,pts[j]?=some q:=⟨_,List.getElem?_eq_getElem (by omega)⟩
    obtain ⟨q1,q2,q3,q4,q5,q6⟩:=hfar q (List.mem_of_getElem? hq)
    (repeat' first|(refine Ka ?_;first|refine Kb ?_|(refine Kc ?_;intro _))|refine Kd ?_|(refine Ki ?_;refine Kj ?_)|exact Kk|refine Kl ?_ ?_|(refine Km ?_;first|refine Kn ?_|(refine Ko ?_;intro _))|(refine Kp ?_;first|refine Kq ?_|refine Kr ?_)|refine Kh ?_)
    generalize x.w1 % 8=W at *
    have m1:=mul_in (m:=7) (n:=200000) (by decide) (by decide) (show -7≤W by omega) hW.2 q1 q2
    have m2:=mul_in (m:=7) (n:=200000) (by decide) (by decide) (show -7≤W by omega) hW.2 q3 q4
    have m3:=mul_in (m:=7) (n:=200000) (by decide) (by decide) (show -7≤W by omega) hW.2 q5 q6
    refine Tri.dw (.cl b3 [pv,fv] 34::.cl b2 [.int .u8 x.a0,.int .u8 x.a1,.int .u8 x.a2,.int .u8 x.w0,.int .u8 x.w1,.int .u8 x.w2,.int .i16 x.o0,.int .i16 x.o1,.int .i16 x.o2] 29::As) [] (.take 0 (.take 1 (.take 2 (.take 3 (.take 4 (.take 5 (.take 6 (.take 7 (.take 8 (.take 9 (.take 10 (.take 11 (.take 12 (.all [(13,.all [(14,.done)])])))))))))))))) ?_
    (repeat' first|(refine Ka ?_;first|refine Kb ?_|(refine Kc ?_;intro _))|refine Kd ?_|(refine Ki ?_;refine Kj ?_)|exact Kk|refine Kl ?_ ?_|(refine Km ?_;first|refine Kn ?_|(refine Ko ?_;intro _))|(refine Kp ?_;first|refine Kq ?_|refine Kr ?_)|refine Kh ?_)
    rw [hj]
    (repeat' first|(refine Ka ?_;first|refine Kb ?_|(refine Kc ?_;intro _))|refine Kd ?_|(refine Ki ?_;refine Kj ?_)|exact Kk|refine Kl ?_ ?_|(refine Km ?_;first|refine Kn ?_|(refine Ko ?_;intro _))|(refine Kp ?_;first|refine Kq ?_|refine Kr ?_)|refine Kh ?_)
    refine Tri.unroll 4 ?_
    iterate 3
      (repeat' first|(refine Ka ?_;first|refine Kb ?_|(refine Kc ?_;intro _))|refine Kd ?_|(refine Ki ?_;refine Kj ?_)|exact Kk|refine Kl ?_ ?_|(refine Km ?_;first|refine Kn ?_|(refine Ko ?_;intro _))|(refine Kp ?_;first|refine Kq ?_|refine Kr ?_)|refine Kh ?_)
      refine Tri.dr (.take 0 (.take 1 (.take 2 (.take 3 (.take 4 (.take 5 (.take 6 (.take 7 (.take 8 (.take 9 (.take 10 (.all [(11,.done)])))))))))))) ?_
    (repeat' first|(refine Ka ?_;first|refine Kb ?_|(refine Kc ?_;intro _))|refine Kd ?_|(refine Ki ?_;refine Kj ?_)|exact Kk|refine Kl ?_ ?_|(refine Km ?_;first|refine Kn ?_|(refine Ko ?_;intro _))|(refine Kp ?_;first|refine Kq ?_|refine Kr ?_)|refine Kh ?_)
    refine Post.round (2,⟨s.x+W * q.x,s.y+W * q.y,s.z+W * q.z⟩,n+W) ⟨by simp only;omega,⟨by simp only;omega,by simp only;omega,by simp only;omega,by simp only;omega,by simp only;omega,by simp only;omega⟩,by simp only;omega,by simp only;omega⟩ (by simp only;omega) (by (exact Sub.au)) (by (exact Ents.au))
  · have hW:0≤x.w2 % 8∧x.w2 % 8≤7:=by omega
    have hj0:=Int.emod_nonneg x.a2 (show (pts.length:Int)≠0 by omega)
    have hj1:=Int.emod_lt_of_pos x.a2 (show (0:Int) < pts.length by omega)
    obtain ⟨j,hj⟩:∃ j:Nat,x.a2 % (pts.length:Int)=(j:Int):=⟨(x.a2 % (pts.length:Int)).toNat,(Int.toNat_of_nonneg hj0).symm⟩
    rw [hj] at hj0 hj1
    obtain ⟨q,hq⟩:∃ q,pts[j]?=some q:=⟨_,List.getElem?_eq_getElem (by omega)⟩
    obtain ⟨q1,q2,q3,q4,q5,q6⟩:=hfar q (List.mem_of_getElem? hq)
    (repeat' first|(refine Ka ?_;first|refine Kb ?_|(refine Kc ?_;intro _))|refine Kd ?_|(refine Ki ?_;refine Kj ?_)|exact Kk|refine Kl ?_ ?_|(refine Km ?_;first|refine Kn ?_|(refine Ko ?_;intro _))|(refine Kp ?_;first|refine Kq ?_|refine Kr ?_)|refine Kh ?_)
    generalize x.w2 % 8=W at *
    have m1:=mul_in (m:=7) (n:=200000) (by decide) (by decide) (show -7≤W by omega) hW.2 q1 q2
    have m2:=mul_in (m:=7) (n:=200000) (by decide) (by decide) (show -7≤W by omega) hW.2 q3 q4
    have m3:=mul_in (m:=7) (n:=200000) (by decide) (by decide) (show -7≤W by omega) hW.2 q5 q6
    refine Tri.dw (.cl b3 [pv,fv] 34::.cl b2 [.int .u8 x.a0,.int .u8 x.a1,.int .u8 x.a2,.int .u8 x.w0,.int .u8 x.w1,.int .u8 x.w2,.int .i16 x.o0,.int .i16 x.o1,.int .i16 x.o2] 29::As) [] (.take 0 (.take 1 (.take 2 (.take 3 (.take 4 (.take 5 (.take 6 (.take 7 (.take 8 (.take 9 (.take 10 (.take 11 (.take 12 (.all [(13,.all [(14,.done)])])))))))))))))) ?_
    (repeat' first|(refine Ka ?_;first|refine Kb ?_|(refine Kc ?_;intro _))|refine Kd ?_|(refine Ki ?_;refine Kj ?_)|exact Kk|refine Kl ?_ ?_|(refine Km ?_;first|refine Kn ?_|(refine Ko ?_;intro _))|(refine Kp ?_;first|refine Kq ?_|refine Kr ?_)|refine Kh ?_)
    rw [hj]
    (repeat' first|(refine Ka ?_;first|refine Kb ?_|(refine Kc ?_;intro _))|refine Kd ?_|(refine Ki ?_;refine Kj ?_)|exact Kk|refine Kl ?_ ?_|(refine Km ?_;first|refine Kn ?_|(refine Ko ?_;intro _))|(refine Kp ?_;first|refine Kq ?_|refine Kr ?_)|refine Kh ?_)
    refine Tri.unroll 4 ?_
    iterate 3
      (repeat' first|(refine Ka ?_;first|refine Kb ?_|(refine Kc ?_;intro _))|refine Kd ?_|(refine Ki ?_;refine Kj ?_)|exact Kk|refine Kl ?_ ?_|(refine Km ?_;first|refine Kn ?_|(refine Ko ?_;intro _))|(refine Kp ?_;first|refine Kq ?_|refine Kr ?_)|refine Kh ?_)
      refine Tri.dr (.take 0 (.take 1 (.take 2 (.take 3 (.take 4 (.take 5 (.take 6 (.take 7 (.take 8 (.take 9 (.take 10 (.all [(11,.done)])))))))))))) ?_
    (repeat' first|(refine Ka ?_;first|refine Kb ?_|(refine Kc ?_;intro _))|refine Kd ?_|(refine Ki ?_;refine Kj ?_)|exact Kk|refine Kl ?_ ?_|(refine Km ?_;first|refine Kn ?_|(refine Ko ?_;intro _))|(refine Kp ?_;first|refine Kq ?_|refine Kr ?_)|refine Kh ?_)
    refine Post.round (3,⟨s.x+W * q.x,s.y+W * q.y,s.z+W * q.z⟩,n+W) ⟨by simp only;omega,⟨by simp only;omega,by simp only;omega,by simp only;omega,by simp only;omega,by simp only;omega,by simp only;omega⟩,by simp only;omega,by simp only;omega⟩ (by simp only;omega) (by (exact Sub.au)) (by (exact Ents.au))
  · (repeat' first|(refine Ka ?_;first|refine Kb ?_|(refine Kc ?_;intro _))|refine Kd ?_|(refine Ki ?_;refine Kj ?_)|exact Kk|refine Kl ?_ ?_|(refine Km ?_;first|refine Kn ?_|(refine Ko ?_;intro _))|(refine Kp ?_;first|refine Kq ?_|refine Kr ?_)|refine Kh ?_)
    have key:∀ v:Int,-4200000≤v∧v≤4200000→-4200000≤v.tdiv n∧v.tdiv n≤4200000:=fun v hv=>by
      have:=Int.natAbs_tdiv_le_natAbs v n
      omega
    have k1:=key s.x (by omega)
    have k2:=key s.y (by omega)
    have k3:=key s.z (by omega)
    clear key hfar hg a0 a1 a2 u0 u1 u2 hl hl4 hi
    by_cases hn0:0 < n
    · (repeat' first|(refine Ka ?_;first|refine Kb ?_|(refine Kc ?_;intro _))|refine Kd ?_|(refine Ki ?_;refine Kj ?_)|exact Kk|refine Kl ?_ ?_|(refine Km ?_;first|refine Kn ?_|(refine Ko ?_;intro _))|(refine Kp ?_;first|refine Kq ?_|refine Kr ?_)|refine Kh ?_)
      refine Tri.unroll 4 ?_
      (repeat' first|(refine Ka ?_;first|refine Kb ?_|(refine Kc ?_;intro _))|refine Kd ?_|(refine Ki ?_;refine Kj ?_)|exact Kk|refine Kl ?_ ?_|(refine Km ?_;first|refine Kn ?_|(refine Ko ?_;intro _))|(refine Kp ?_;first|refine Kq ?_|refine Kr ?_)|refine Kh ?_)
      refine TL.f rfl rfl (ExF.quo rfl rfl (by omega)) ?_
      rw [wrap_of_IR (show IR .i64 (s.x.tdiv n) from ⟨by show -9223372036854775808≤_;omega,by show _≤9223372036854775807;omega⟩)]
      (repeat' first|(refine Ka ?_;first|refine Kb ?_|(refine Kc ?_;intro _))|refine Kd ?_|(refine Ki ?_;refine Kj ?_)|exact Kk|refine Kl ?_ ?_|(refine Km ?_;first|refine Kn ?_|(refine Ko ?_;intro _))|(refine Kp ?_;first|refine Kq ?_|refine Kr ?_)|refine Kh ?_)
      refine Tri.dr (.take 0 (.take 1 (.take 2 (.take 3 (.take 4 (.take 5 (.take 6 (.take 7 (.take 8 (.take 9 (.take 10 (.take 11 (.take 12 (.all [(13,.done)])))))))))))))) ?_
      (repeat' first|(refine Ka ?_;first|refine Kb ?_|(refine Kc ?_;intro _))|refine Kd ?_|(refine Ki ?_;refine Kj ?_)|exact Kk|refine Kl ?_ ?_|(refine Km ?_;first|refine Kn ?_|(refine Ko ?_;intro _))|(refine Kp ?_;first|refine Kq ?_|refine Kr ?_)|refine Kh ?_)
      rw [clampV (s.x.tdiv n+x.o0)]
      generalize hv0:clampI (s.x.tdiv n+x.o0)=v0
      (repeat' first|(refine Ka ?_;first|refine Kb ?_|(refine Kc ?_;intro _))|refine Kd ?_|(refine Ki ?_;refine Kj ?_)|exact Kk|refine Kl ?_ ?_|(refine Km ?_;first|refine Kn ?_|(refine Ko ?_;intro _))|(refine Kp ?_;first|refine Kq ?_|refine Kr ?_)|refine Kh ?_)
      refine TL.f rfl rfl (ExF.quo rfl rfl (by omega)) ?_
      rw [wrap_of_IR (show IR .i64 (s.y.tdiv n) from ⟨by show -9223372036854775808≤_;omega,by show _≤9223372036854775807;omega⟩)]
      (repeat' first|(refine Ka ?_;first|refine Kb ?_|(refine Kc ?_;intro _))|refine Kd ?_|(refine Ki ?_;refine Kj ?_)|exact Kk|refine Kl ?_ ?_|(refine Km ?_;first|refine Kn ?_|(refine Ko ?_;intro _))|(refine Kp ?_;first|refine Kq ?_|refine Kr ?_)|refine Kh ?_)
      refine Tri.dr (.take 0 (.take 1 (.take 2 (.take 3 (.take 4 (.take 5 (.take 6 (.take 7 (.take 8 (.take 9 (.take 10 (.take 11 (.take 12 (.all [(13,.done)])))))))))))))) ?_
      (repeat' first|(refine Ka ?_;first|refine Kb ?_|(refine Kc ?_;intro _))|refine Kd ?_|(refine Ki ?_;refine Kj ?_)|exact Kk|refine Kl ?_ ?_|(refine Km ?_;first|refine Kn ?_|(refine Ko ?_;intro _))|(refine Kp ?_;first|refine Kq ?_|refine Kr ?_)|refine Kh ?_)
      rw [clampV (s.y.tdiv n+x.o1)]
      generalize hv1:clampI (s.y.tdiv n+x.o1)=v1
      (repeat' first|(refine Ka ?_;first|refine Kb ?_|(refine Kc ?_;intro _))|refine Kd ?_|(refine Ki ?_;refine Kj ?_)|exact Kk|refine Kl ?_ ?_|(refine Km ?_;first|refine Kn ?_|(refine Ko ?_;intro _))|(refine Kp ?_;first|refine Kq ?_|refine Kr ?_)|refine Kh ?_)
      refine TL.f rfl rfl (ExF.quo rfl rfl (by omega)) ?_
      rw [wrap_of_IR (show IR .i64 (s.z.tdiv n) from ⟨by show -9223372036854775808≤_;omega,by show _≤9223372036854775807;omega⟩)]
      (repeat' first|(refine Ka ?_;first|refine Kb ?_|(refine Kc ?_;intro _))|refine Kd ?_|(refine Ki ?_;refine Kj ?_)|exact Kk|refine Kl ?_ ?_|(refine Km ?_;first|refine Kn ?_|(refine Ko ?_;intro _))|(refine Kp ?_;first|refine Kq ?_|refine Kr ?_)|refine Kh ?_)
      refine Tri.dr (.take 0 (.take 1 (.take 2 (.take 3 (.take 4 (.take 5 (.take 6 (.take 7 (.take 8 (.take 9 (.take 10 (.take 11 (.take 12 (.all [(13,.done)])))))))))))))) ?_
      (repeat' first|(refine Ka ?_;first|refine Kb ?_|(refine Kc ?_;intro _))|refine Kd ?_|(refine Ki ?_;refine Kj ?_)|exact Kk|refine Kl ?_ ?_|(refine Km ?_;first|refine Kn ?_|(refine Ko ?_;intro _))|(refine Kp ?_;first|refine Kq ?_|refine Kr ?_)|refine Kh ?_)
      rw [clampV (s.z.tdiv n+x.o2)]
      generalize hv2:clampI (s.z.tdiv n+x.o2)=v2
      (repeat' first|(refine Ka ?_;first|refine Kb ?_|(refine Kc ?_;intro _))|refine Kd ?_|(refine Ki ?_;refine Kj ?_)|exact Kk|refine Kl ?_ ?_|(refine Km ?_;first|refine Kn ?_|(refine Ko ?_;intro _))|(refine Kp ?_;first|refine Kq ?_|refine Kr ?_)|refine Kh ?_)
      (refine Post.ra ?_)
      refine ⟨_,⟨⟨v0,v1,v2⟩,?_,rfl,rfl⟩,by (exact Ents.au)⟩
      rw [isFar_no]
      have w0:=clamp_in hv0
      have w1:=clamp_in hv1
      have w2:=clamp_in hv2
      simp only
      omega
    · (repeat' first|(refine Ka ?_;first|refine Kb ?_|(refine Kc ?_;intro _))|refine Kd ?_|(refine Ki ?_;refine Kj ?_)|exact Kk|refine Kl ?_ ?_|(refine Km ?_;first|refine Kn ?_|(refine Ko ?_;intro _))|(refine Kp ?_;first|refine Kq ?_|refine Kr ?_)|refine Kh ?_)
      refine Tri.unroll 4 ?_
      (repeat' first|(refine Ka ?_;first|refine Kb ?_|(refine Kc ?_;intro _))|refine Kd ?_|(refine Ki ?_;refine Kj ?_)|exact Kk|refine Kl ?_ ?_|(refine Km ?_;first|refine Kn ?_|(refine Ko ?_;intro _))|(refine Kp ?_;first|refine Kq ?_|refine Kr ?_)|refine Kh ?_)
      refine Tri.dr (.take 0 (.take 1 (.take 2 (.take 3 (.take 4 (.take 5 (.take 6 (.take 7 (.take 8 (.take 9 (.take 10 (.take 11 (.take 12 (.all [(13,.done)])))))))))))))) ?_
      (repeat' first|(refine Ka ?_;first|refine Kb ?_|(refine Kc ?_;intro _))|refine Kd ?_|(refine Ki ?_;refine Kj ?_)|exact Kk|refine Kl ?_ ?_|(refine Km ?_;first|refine Kn ?_|(refine Ko ?_;intro _))|(refine Kp ?_;first|refine Kq ?_|refine Kr ?_)|refine Kh ?_)
      rw [clampV (s.x+x.o0)]
      generalize hv0:clampI (s.x+x.o0)=v0
      (repeat' first|(refine Ka ?_;first|refine Kb ?_|(refine Kc ?_;intro _))|refine Kd ?_|(refine Ki ?_;refine Kj ?_)|exact Kk|refine Kl ?_ ?_|(refine Km ?_;first|refine Kn ?_|(refine Ko ?_;intro _))|(refine Kp ?_;first|refine Kq ?_|refine Kr ?_)|refine Kh ?_)
      refine Tri.dr (.take 0 (.take 1 (.take 2 (.take 3 (.take 4 (.take 5 (.take 6 (.take 7 (.take 8 (.take 9 (.take 10 (.take 11 (.take 12 (.all [(13,.done)])))))))))))))) ?_
      (repeat' first|(refine Ka ?_;first|refine Kb ?_|(refine Kc ?_;intro _))|refine Kd ?_|(refine Ki ?_;refine Kj ?_)|exact Kk|refine Kl ?_ ?_|(refine Km ?_;first|refine Kn ?_|(refine Ko ?_;intro _))|(refine Kp ?_;first|refine Kq ?_|refine Kr ?_)|refine Kh ?_)
      rw [clampV (s.y+x.o1)]
      generalize hv1:clampI (s.y+x.o1)=v1
      (repeat' first|(refine Ka ?_;first|refine Kb ?_|(refine Kc ?_;intro _))|refine Kd ?_|(refine Ki ?_;refine Kj ?_)|exact Kk|refine Kl ?_ ?_|(refine Km ?_;first|refine Kn ?_|(refine Ko ?_;intro _))|(refine Kp ?_;first|refine Kq ?_|refine Kr ?_)|refine Kh ?_)
      refine Tri.dr (.take 0 (.take 1 (.take 2 (.take 3 (.take 4 (.take 5 (.take 6 (.take 7 (.take 8 (.take 9 (.take 10 (.take 11 (.take 12 (.all [(13,.done)])))))))))))))) ?_
      (repeat' first|(refine Ka ?_;first|refine Kb ?_|(refine Kc ?_;intro _))|refine Kd ?_|(refine Ki ?_;refine Kj ?_)|exact Kk|refine Kl ?_ ?_|(refine Km ?_;first|refine Kn ?_|(refine Ko ?_;intro _))|(refine Kp ?_;first|refine Kq ?_|refine Kr ?_)|refine Kh ?_)
      rw [clampV (s.z+x.o2)]
      generalize hv2:clampI (s.z+x.o2)=v2
      (repeat' first|(refine Ka ?_;first|refine Kb ?_|(refine Kc ?_;intro _))|refine Kd ?_|(refine Ki ?_;refine Kj ?_)|exact Kk|refine Kl ?_ ?_|(refine Km ?_;first|refine Kn ?_|(refine Ko ?_;intro _))|(refine Kp ?_;first|refine Kq ?_|refine Kr ?_)|refine Kh ?_)
      (refine Post.ra ?_)
      refine ⟨_,⟨⟨v0,v1,v2⟩,?_,rfl,rfl⟩,by (exact Ents.au)⟩
      rw [isFar_no]
      have w0:=clamp_in hv0
      have w1:=clamp_in hv1
      have w2:=clamp_in hv2
      simp only
      omega
end Go.Proofs.YtgapnfaakdjpaaaGreatDoor
