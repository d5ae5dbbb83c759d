/- Walks: InsideRays. -/
import Derived.Test.YtgapnfaakdjpaaaGreatDoorJrA
import Derived.Test.YtgapnfaakdjpaaaGreatDoorJr4
import Derived.Test.YtgapnfaakdjpaaaGreatDoorSxS
namespace Go.Sx
open Go
def rayN:Int ⊕ (Rat × Nat)→List UInt8
  | .inl _=>[]
  | .inr (t,_)=>tN t
def rayD:Int ⊕ (Rat × Nat)→List UInt8
  | .inl _=>[]
  | .inr (t,_)=>tD t
def rayJ:Int ⊕ (Rat × Nat)→Int
  | .inl _=>0
  | .inr (_,j)=>(j:Int)
def rayE:Int ⊕ (Rat × Nat)→Int
  | .inl e=>e
  | .inr _=>0
end Go.Sx
namespace Go.Proofs.YtgapnfaakdjpaaaGreatDoor
open Go Go.Sx
variable {w0:World} {As:List Ent} {pv fv:Value} {pts fcs:List V3}
theorem rayR_eq (o:Int ⊕ (Rat × Nat)):rayR o=.tuple #[.agg #[.string ⟨(rayN o).toArray⟩,.string ⟨(rayD o).toArray⟩],.int .i64 (rayJ o),.int .i64 (rayE o)]:=by
  cases o with
  | inl e=>rfl
  | inr r=>obtain ⟨t,j⟩:=r;rfl
set_option maxRecDepth 100000 in
set_option maxHeartbeats 8000000 in
theorem insideRays_ok (ht:Tab w0) (d:DraftA) (hd:d.ok) {n:Int} (hn:0≤n∧n≤255) {x y z:PlaceA} (hx:x.ok) (hy:y.ok) (hz:z.ok) {q:V3} [RdIn As d.ov Int (cI .i8) d.off] :
    CallsS Tryz.prog w0 4 [.agg d.cells.toArray,.int .u8 n,.agg (x.cells++y.cells++z.cells).toArray,q.val] As fun u _=>u=.bool true:=by
  have hgd:=okM_good.1 (d.good hd)
  have hl:=hgd.p4
  have hl3:=hgd.p300
  have hlf:=hgd.f4
  refine CallsS.rdOne d.ov (xs:=d.off) (c:=cI .i8) fun hov=>?_
  refine CallsS.of_tri Tryz.func4 rfl Tryz.ntmps4 rfl ?_
  show Tri _ _ _ _ (env0 0 [.agg #[.int .u8 d.kd,.int .u8 d.sz,.int .i16 d.a0,.int .i16 d.a1,.int .i16 d.a2,d.ov,.bool d.tn],.int .u8 n,.agg #[.int .u8 x.a0,.int .u8 x.a1,.int .u8 x.a2,.int .u8 x.w0,.int .u8 x.w1,.int .u8 x.w2,.int .i16 x.o0,.int .i16 x.o1,.int .i16 x.o2,.int .u8 y.a0,.int .u8 y.a1,.int .u8 y.a2,.int .u8 y.w0,.int .u8 y.w1,.int .u8 y.w2,.int .i16 y.o0,.int .i16 y.o1,.int .i16 y.o2,.int .u8 z.a0,.int .u8 z.a1,.int .u8 z.a2,.int .u8 z.w0,.int .u8 z.w1,.int .u8 z.w2,.int .i16 z.o0,.int .i16 z.o1,.int .i16 z.o2],.agg #[.int .i64 q.x,.int .i64 q.y,.int .i64 q.z]]) _ _
  (repeat' first|(refine Ka ?_;first|refine Kb ?_|(refine Kc ?_;intro _))|refine Kd ?_|refine Kh ?_)
  refine TL.callv rfl rfl rfl rfl (draftA_ok d hd) ?_
  rintro _ _ ⟨pv,fv,rfl,o1,o2,rfl⟩
  generalize d.mesh.1=P at *
  generalize d.mesh.2=F at *
  refine TL.ents frz2 ?_
  (repeat' first|(refine Ka ?_;first|refine Kb ?_|(refine Kc ?_;intro _))|refine Kd ?_|refine Kh ?_)
  refine TL.callv rfl rfl rfl rfl (spoilt_ok (pv:=pv) (fv:=fv) (pts:=P) (fcs:=F) hn (by omega) (by omega) hl3) ?_
  rintro _ _ ⟨pv',fv',P',F',rfl,rfl⟩
  refine TL.rdSl (c:=cV3) (xs:=P') pv' fun p1 c1 e1=>TL.rdSl (c:=cV3) (xs:=F') fv' fun p2 c2 e2=>?_
  subst e1 e2
  (repeat' first|(refine Ka ?_;first|refine Kb ?_|(refine Kc ?_;intro _))|refine Kd ?_|refine Kh ?_)
  rename_i b4 b6 b7 b9 b10
  refine Tri.mid (fun e' As'=>∃ (r1 r2 r3:V3) (b11:Nat),e'=[(10,.pointer (some ⟨b10,0,none⟩)),(11,.pointer (some ⟨b11,0,none⟩))] ∧
    As'=.cl b11 [.int .i64 r1.x,.int .i64 r1.y,.int .i64 r1.z,.int .i64 r2.x,.int .i64 r2.y,.int .i64 r2.z,.int .i64 r3.x,.int .i64 r3.y,.int .i64 r3.z,.int .i64 q.x,.int .i64 q.y,.int .i64 q.z] 45::.cl b10 [.slice p1 P'.length c1,.slice p2 F'.length c2] 34::.ft (rd cV3 (.slice p1 P'.length c1) P')::.ft (rd cV3 (.slice p2 F'.length c2) F')::As) ?_ ?_
  · refine Tri.dw [.cl b6 [.int .u8 x.a0,.int .u8 x.a1,.int .u8 x.a2,.int .u8 x.w0,.int .u8 x.w1,.int .u8 x.w2,.int .i16 x.o0,.int .i16 x.o1,.int .i16 x.o2,.int .u8 y.a0,.int .u8 y.a1,.int .u8 y.a2,.int .u8 y.w0,.int .u8 y.w1,.int .u8 y.w2,.int .i16 y.o0,.int .i16 y.o1,.int .i16 y.o2,.int .u8 z.a0,.int .u8 z.a1,.int .u8 z.a2,.int .u8 z.w0,.int .u8 z.w1,.int .u8 z.w2,.int .i16 z.o0,.int .i16 z.o1,.int .i16 z.o2] 44,.cl b9 [pv,fv] 34,.cl b7 [.int .i64 q.x,.int .i64 q.y,.int .i64 q.z] 31] [] (.take 0 (.take 1 (.take 2 (.take 4 (.take 5 (.take 6 (.take 8 (.take 9 (.take 10 (.take 12 (.all [(3,.all [(7,.all [(11,.take 13 (.all [(14,.all [(15,.done)])])),(14,.all [(11,.take 13 (.all [(15,.done)]))])]),(14,.all [(7,.all [(11,.take 13 (.all [(15,.done)]))])])]),(14,.all [(3,.all [(7,.all [(11,.take 13 (.all [(15,.done)]))])])])]))))))))))) ?_
    (repeat' first|(refine Ka ?_;first|refine Kb ?_|(refine Kc ?_;intro _))|refine Kd ?_|(refine Ki ?_;refine Kj ?_)|exact Kk|refine Kl ?_ ?_|(refine Km ?_;first|refine Kn ?_|(refine Ko ?_;intro _))|(refine Kp ?_;first|refine Kq ?_|refine Kr ?_)|refine Kh ?_)
    repeat' (first
      | (refine T1.callv rfl rfl rfl rfl rfl (point_ok (x:=x) (pv:=pv) (fv:=fv) hx hgd) ?_;rintro _ _ ⟨r1,_,rfl,rfl⟩;show TC _ _ _ _ _ _ _ ((_,.agg #[.int .i64 r1.x,.int .i64 r1.y,.int .i64 r1.z])::_) _ _;(repeat' first|(refine Ka ?_;first|refine Kb ?_|(refine Kc ?_;intro _))|refine Kd ?_|(refine Ki ?_;refine Kj ?_)|exact Kk|refine Kl ?_ ?_|(refine Km ?_;first|refine Kn ?_|(refine Ko ?_;intro _))|(refine Kp ?_;first|refine Kq ?_|refine Kr ?_)|refine Kh ?_))
      | (refine T1.callv rfl rfl rfl rfl rfl (point_ok (x:=y) (pv:=pv) (fv:=fv) hy hgd) ?_;rintro _ _ ⟨r2,_,rfl,rfl⟩;show TC _ _ _ _ _ _ _ ((_,.agg #[.int .i64 r2.x,.int .i64 r2.y,.int .i64 r2.z])::_) _ _;(repeat' first|(refine Ka ?_;first|refine Kb ?_|(refine Kc ?_;intro _))|refine Kd ?_|(refine Ki ?_;refine Kj ?_)|exact Kk|refine Kl ?_ ?_|(refine Km ?_;first|refine Kn ?_|(refine Ko ?_;intro _))|(refine Kp ?_;first|refine Kq ?_|refine Kr ?_)|refine Kh ?_))
      | (refine T1.callv rfl rfl rfl rfl rfl (point_ok (x:=z) (pv:=pv) (fv:=fv) hz hgd) ?_;rintro _ _ ⟨r3,_,rfl,rfl⟩;show TC _ _ _ _ _ _ _ ((_,.agg #[.int .i64 r3.x,.int .i64 r3.y,.int .i64 r3.z])::_) _ _;(repeat' first|(refine Ka ?_;first|refine Kb ?_|(refine Kc ?_;intro _))|refine Kd ?_|(refine Ki ?_;refine Kj ?_)|exact Kk|refine Kl ?_ ?_|(refine Km ?_;first|refine Kn ?_|(refine Ko ?_;intro _))|(refine Kp ?_;first|refine Kq ?_|refine Kr ?_)|refine Kh ?_)))
    all_goals exact Post.cut _ _ ⟨r1,r2,r3,_,rfl,rfl⟩ (by (exact Sub.au)) (by (exact Ents.au))
  rintro _ _ ⟨r1,r2,r3,b11,rfl,rfl⟩
  clear hx hy hz hgd hl hl3 hlf hd
  (repeat' first|(refine Ka ?_;first|refine Kb ?_|(refine Kc ?_;intro _))|refine Kd ?_|(refine Ki ?_;refine Kj ?_)|exact Kk|refine Kl ?_ ?_|(refine Km ?_;first|refine Kn ?_|(refine Ko ?_;intro _))|(refine Kp ?_;first|refine Kq ?_|refine Kr ?_)|refine Kh ?_)
  refine Tri.loop (ι:=Nat) (fun i=>i=0∨i=1∨i=2∨i=3∨i=4) (fun i=>4 - i)
    (fun i=>[(10,.pointer (some ⟨b10,0,none⟩)),(11,.pointer (some ⟨b11,0,none⟩)),(42,.agg #[.int .i64 r1.x,.int .i64 r1.y,.int .i64 r1.z,.int .i64 r2.x,.int .i64 r2.y,.int .i64 r2.z,.int .i64 r3.x,.int .i64 r3.y,.int .i64 r3.z,.int .i64 q.x,.int .i64 q.y,.int .i64 q.z]),(43,.int .i64 (i:Int))])
    (fun i=>.cl b11 [.int .i64 r1.x,.int .i64 r1.y,.int .i64 r1.z,.int .i64 r2.x,.int .i64 r2.y,.int .i64 r2.z,.int .i64 r3.x,.int .i64 r3.y,.int .i64 r3.z,.int .i64 q.x,.int .i64 q.y,.int .i64 q.z] 45::.cl b10 [.slice p1 P'.length c1,.slice p2 F'.length c2] 34::.ft (rd cV3 (.slice p1 P'.length c1) P')::.ft (rd cV3 (.slice p2 F'.length c2) F')::As) 0 (by omega) (by (exact Sub.au)) (by (exact Ents.au)) ?_
  intro i hi
  rcases hi with rfl|rfl|rfl|rfl|rfl
  rotate_left 4
  · show Tri _ _ _ _ [(10,_),(11,_),(42,_),(43,.int .i64 4)] _ _
    (repeat' first|(refine Ka ?_;first|refine Kb ?_|(refine Kc ?_;intro _))|refine Kd ?_|(refine Ki ?_;refine Kj ?_)|exact Kk|refine Kl ?_ ?_|(refine Km ?_;first|refine Kn ?_|(refine Ko ?_;intro _))|(refine Kp ?_;first|refine Kq ?_|refine Kr ?_)|refine Kh ?_)
    refine TL.call rfl rfl rfl (works36_ok ht) ?_
    rintro _ _ ⟨rfl,rfl⟩
    (repeat' first|(refine Ka ?_;first|refine Kb ?_|(refine Kc ?_;intro _))|refine Kd ?_|(refine Ki ?_;refine Kj ?_)|exact Kk|refine Kl ?_ ?_|(refine Km ?_;first|refine Kn ?_|(refine Ko ?_;intro _))|(refine Kp ?_;first|refine Kq ?_|refine Kr ?_)|refine Kh ?_)
    (refine Post.ra ?_)
    exact ⟨_,rfl,Ents.refl _⟩
  all_goals
    (repeat' first|(refine Ka ?_;first|refine Kb ?_|(refine Kc ?_;intro _))|refine Kd ?_|(refine Ki ?_;refine Kj ?_)|exact Kk|refine Kl ?_ ?_|(refine Km ?_;first|refine Kn ?_|(refine Ko ?_;intro _))|(refine Kp ?_;first|refine Kq ?_|refine Kr ?_)|refine Kh ?_)
    refine Tri.unroll 3 ?_
    (repeat' first|(refine Ka ?_;first|refine Kb ?_|(refine Kc ?_;intro _))|refine Kd ?_|(refine Ki ?_;refine Kj ?_)|exact Kk|refine Kl ?_ ?_|(refine Km ?_;first|refine Kn ?_|(refine Ko ?_;intro _))|(refine Kp ?_;first|refine Kq ?_|refine Kr ?_)|refine Kh ?_)
    iterate 2
      refine TL.callv rfl rfl rfl rfl (ray_ok ht (pv:=.slice p1 P'.length c1) (fv:=.slice p2 F'.length c2) (pts:=P') (fcs:=F') (p:=⟨_,_,_⟩) (q:=⟨_,_,_⟩)) ?_
      rintro _ _ ⟨rfl,rfl⟩
      rw [rayR_eq]
      (repeat' first|(refine Ka ?_;first|refine Kb ?_|(refine Kc ?_;intro _))|refine Kd ?_|(refine Ki ?_;refine Kj ?_)|exact Kk|refine Kl ?_ ?_|(refine Km ?_;first|refine Kn ?_|(refine Ko ?_;intro _))|(refine Kp ?_;first|refine Kq ?_|refine Kr ?_)|refine Kh ?_)
      refine TL.callv rfl rfl rfl rfl (rRay_ok (pv:=.slice p1 P'.length c1) (fv:=.slice p2 F'.length c2) (pts:=P') (fcs:=F') (p:=⟨_,_,_⟩) (q:=⟨_,_,_⟩)) ?_
      rintro _ _ ⟨rfl,rfl⟩
      rw [rayR_eq]
      (repeat' first|(refine Ka ?_;first|refine Kb ?_|(refine Kc ?_;intro _))|refine Kd ?_|(refine Ki ?_;refine Kj ?_)|exact Kk|refine Kl ?_ ?_|(refine Km ?_;first|refine Kn ?_|(refine Ko ?_;intro _))|(refine Kp ?_;first|refine Kq ?_|refine Kr ?_)|refine Kh ?_)
      refine TL.f rfl rfl (ExF.neqFr rfl rfl) ?_
      rw [show ∀ x z:List UInt8,(!decide (x=x∧z=z))=false by simp]
      (repeat' first|(refine Ka ?_;first|refine Kb ?_|(refine Kc ?_;intro _))|refine Kd ?_|(refine Ki ?_;refine Kj ?_)|exact Kk|refine Kl ?_ ?_|(refine Km ?_;first|refine Kn ?_|(refine Ko ?_;intro _))|(refine Kp ?_;first|refine Kq ?_|refine Kr ?_)|refine Kh ?_)
  · exact Post.round 1 (by omega) (by omega) (by (exact Sub.au)) (by (exact Ents.au))
  · exact Post.round 2 (by omega) (by omega) (by (exact Sub.au)) (by (exact Ents.au))
  · exact Post.round 3 (by omega) (by omega) (by (exact Sub.au)) (by (exact Ents.au))
  · exact Post.round 4 (by omega) (by omega) (by (exact Sub.au)) (by (exact Ents.au))
end Go.Proofs.YtgapnfaakdjpaaaGreatDoor
