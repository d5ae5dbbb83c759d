/- Walks: InsideSides. -/
import Derived.Test.YtgapnfaakdjpaaaGreatDoorJr3
import Derived.Test.YtgapnfaakdjpaaaGreatDoorJr1
import Derived.Test.YtgapnfaakdjpaaaGreatDoorIj1
import Derived.Test.YtgapnfaakdjpaaaGreatDoorMr5
namespace Go.Proofs.YtgapnfaakdjpaaaGreatDoor
open Go Go.Sx
variable {w0:World} {As:List Ent} {pv fv:Value} {pts fcs:List V3}
def SpoiltR (As:List Ent) (v:Value) (Bs:List Ent):Prop:=∃ pv fv P F,v=.agg #[pv,fv]∧Bs=.ft (rd cV3 pv P)::.ft (rd cV3 fv F)::As
theorem spoilt_ok {n:Int} (hn:0≤n∧n≤255) (h1:1≤pts.length) (h2:1≤fcs.length) (h3:pts.length≤300) [FtIn As pv V3 cV3 pts] [FtIn As fv V3 cV3 fcs] :
    CallsS Tryz.prog w0 11 [.agg #[pv,fv],.int .u8 n] As (SpoiltR As):=by
  refine CallsS.rdSl pv fun p0 c0 e0=>CallsS.rdSl fv fun p1 c1 e1=>?_
  subst e0 e1
  refine CallsS.of_tri Tryz.func11 rfl Tryz.ntmps11 rfl ?_
  (repeat' first|(refine Ka ?_;first|refine Kb ?_|(refine Kc ?_;intro _))|refine Kd ?_|refine Ke ?_|refine Kf ?_|refine Kg rfl ?_|refine Kh ?_)
  by_cases k0:n % 8=0
  · (repeat' first|(refine Ka ?_;first|refine Kb ?_|(refine Kc ?_;intro _))|refine Kd ?_|refine Ke ?_|refine Kf ?_|refine Kg rfl ?_|refine Kh ?_)
    refine TL.rdSl (c:=cV3) (xs:=(fcs.drop 1).take (fcs.length - 1)) (subV 3 (.slice p1 fcs.length c1) 1 fcs.length) fun p2 c2 e2=>?_
    rw [e2]
    (repeat' first|(refine Ka ?_;first|refine Kb ?_|(refine Kc ?_;intro _))|refine Kd ?_|refine Ke ?_|refine Kf ?_|refine Kg rfl ?_|refine Kh ?_)
    (refine Post.ra ?_)
    exact ⟨_,⟨.slice p0 pts.length c0,_,pts,(fcs.drop 1).take (fcs.length - 1),rfl,rfl⟩,Ents.trans (Ents.dup (v:=.slice p0 pts.length c0) (cd:=cV3) (xs:=pts)) (by (exact Ents.au))⟩
  · by_cases k1:n % 8=1
    · (repeat' first|(refine Ka ?_;first|refine Kb ?_|(refine Kc ?_;intro _))|refine Kd ?_|refine Ke ?_|refine Kf ?_|refine Kg rfl ?_|refine Kh ?_)
      refine TL.rdSl (c:=cV3) (xs:=(pts.drop 0).take (pts.length - 1 - 0)) (subV 3 (.slice p0 pts.length c0) 0 (pts.length - 1)) fun p2 c2 e2=>?_
      rw [e2]
      (repeat' first|(refine Ka ?_;first|refine Kb ?_|(refine Kc ?_;intro _))|refine Kd ?_|refine Ke ?_|refine Kf ?_|refine Kg rfl ?_|refine Kh ?_)
      (refine Post.ra ?_)
      exact ⟨_,⟨_,.slice p1 fcs.length c1,(pts.drop 0).take (pts.length - 1 - 0),fcs,rfl,rfl⟩,Ents.trans (Ents.dup (v:=.slice p1 fcs.length c1) (cd:=cV3) (xs:=fcs)) (by (exact Ents.au))⟩
    · (repeat' first|(refine Ka ?_;first|refine Kb ?_|(refine Kc ?_;intro _))|refine Kd ?_|refine Ke ?_|refine Kf ?_|refine Kg rfl ?_|refine Kh ?_)
      (refine Post.ra ?_)
      exact ⟨_,⟨.slice p0 pts.length c0,.slice p1 fcs.length c1,pts,fcs,rfl,rfl⟩,Ents.trans (Ents.dup (v:=.slice p1 fcs.length c1) (cd:=cV3) (xs:=fcs)) (Ents.trans (Ents.dup (v:=.slice p0 pts.length c0) (cd:=cV3) (xs:=pts)) (by (exact Ents.au)))⟩
theorem frz2 {T U:TypeId} {R:List Ent} {a b:Value} {xs ys:List V3}:Ents (.ow cV3 T a xs::.ow cV3 U b ys::R) (.ft (rd cV3 a xs)::.ft (rd cV3 b ys)::R) :=
  Ents.trans Ents.freeze (Ents.trans (Ents.perm (List.Perm.swap _ _ _)) (Ents.trans Ents.freeze (Ents.perm (List.Perm.swap _ _ _))))
set_option maxRecDepth 100000 in
set_option maxHeartbeats 4000000 in
theorem insideSides_ok (ht:Tab w0) (d:DraftA) (hd:d.ok) {n:Int} (hn:0≤n∧n≤255) {y z:PlaceA} (hy:y.ok) (hz:z.ok) {q:V3} [RdIn As d.ov Int (cI .i8) d.off] :
    CallsS Tryz.prog w0 3 [.agg d.cells.toArray,.int .u8 n,.agg (y.cells++z.cells).toArray,q.val] As fun u _=>u=.bool true:=by
  have hgd:=okM_good.1 (d.good hd)
  have hl:=hgd.p4
  have hl3:=hgd.p300
  have hlf:=hgd.f4
  refine CallsS.rdOne d.ov (xs:=d.off) (c:=cI .i8) fun hov=>?_
  refine CallsS.of_tri Tryz.func3 rfl Tryz.ntmps3 rfl ?_
  show Tri _ _ _ _ (env0 0 [.agg #[.int .u8 d.kd,.int .u8 d.sz,.int .i16 d.a0,.int .i16 d.a1,.int .i16 d.a2,d.ov,.bool d.tn],.int .u8 n,.agg #[.int .u8 y.a0,.int .u8 y.a1,.int .u8 y.a2,.int .u8 y.w0,.int .u8 y.w1,.int .u8 y.w2,.int .i16 y.o0,.int .i16 y.o1,.int .i16 y.o2,.int .u8 z.a0,.int .u8 z.a1,.int .u8 z.a2,.int .u8 z.w0,.int .u8 z.w1,.int .u8 z.w2,.int .i16 z.o0,.int .i16 z.o1,.int .i16 z.o2],.agg #[.int .i64 q.x,.int .i64 q.y,.int .i64 q.z]]) _ _
  (repeat' first|(refine Ka ?_;first|refine Kb ?_|(refine Kc ?_;intro _))|refine Kd ?_|refine Ke ?_|refine Kf ?_|refine Kg rfl ?_|refine Kh ?_)
  refine TL.callv rfl rfl rfl rfl (draftA_ok d hd) ?_
  rintro _ _ ⟨pv,fv,rfl,o1,o2,rfl⟩
  generalize d.mesh.1=P at *
  generalize d.mesh.2=F at *
  refine TL.ents frz2 ?_
  (repeat' first|(refine Ka ?_;first|refine Kb ?_|(refine Kc ?_;intro _))|refine Kd ?_|refine Ke ?_|refine Kf ?_|refine Kg rfl ?_|refine Kh ?_)
  refine TL.callv rfl rfl rfl rfl (spoilt_ok (pv:=pv) (fv:=fv) (pts:=P) (fcs:=F) hn (by omega) (by omega) hl3) ?_
  rintro _ _ ⟨pv',fv',P',F',rfl,rfl⟩
  refine TL.rdSl (c:=cV3) (xs:=P') pv' fun p1 c1 e1=>TL.rdSl (c:=cV3) (xs:=F') fv' fun p2 c2 e2=>?_
  subst e1 e2
  (repeat' first|(refine Ka ?_;first|refine Kb ?_|(refine Kc ?_;intro _))|refine Kd ?_|refine Ke ?_|refine Kf ?_|refine Kg rfl ?_|refine Kh ?_)
  rename_i b4 b6 b7 b9 b10
  refine Tri.dw [.cl b6 [.int .u8 y.a0,.int .u8 y.a1,.int .u8 y.a2,.int .u8 y.w0,.int .u8 y.w1,.int .u8 y.w2,.int .i16 y.o0,.int .i16 y.o1,.int .i16 y.o2,.int .u8 z.a0,.int .u8 z.a1,.int .u8 z.a2,.int .u8 z.w0,.int .u8 z.w1,.int .u8 z.w2,.int .i16 z.o0,.int .i16 z.o1,.int .i16 z.o2] 30,.cl b9 [pv,fv] 34,.cl b7 [.int .i64 q.x,.int .i64 q.y,.int .i64 q.z] 31] [] (.take 0 (.take 1 (.take 2 (.take 4 (.take 5 (.take 6 (.take 8 (.take 10 (.all [(3,.all [(7,.take 9 (.done))])]))))))))) ?_
  (repeat' first|(refine Ka ?_;first|refine Kb ?_|(refine Kc ?_;intro _))|refine Kd ?_|refine Ke ?_|refine Kf ?_|refine Kg rfl ?_|(refine Ki ?_;refine Kj ?_)|exact Kk|refine Kl ?_ ?_|(refine Km ?_;first|refine Kn ?_|(refine Ko ?_;intro _))|(refine Kp ?_;first|refine Kq ?_|refine Kr ?_)|refine Kh ?_)
  refine T1.callv rfl rfl rfl rfl rfl (point_ok (x:=y) (pv:=pv) (fv:=fv) hy hgd) ?_
  rintro _ _ ⟨r1,_,rfl,rfl⟩
  show TC _ _ _ _ _ _ _ ((_,.agg #[.int .i64 r1.x,.int .i64 r1.y,.int .i64 r1.z])::_) _ _
  (repeat' first|(refine Ka ?_;first|refine Kb ?_|(refine Kc ?_;intro _))|refine Kd ?_|refine Ke ?_|refine Kf ?_|refine Kg rfl ?_|(refine Ki ?_;refine Kj ?_)|exact Kk|refine Kl ?_ ?_|(refine Km ?_;first|refine Kn ?_|(refine Ko ?_;intro _))|(refine Kp ?_;first|refine Kq ?_|refine Kr ?_)|refine Kh ?_)
  refine T1.callv rfl rfl rfl rfl rfl (point_ok (x:=z) (pv:=pv) (fv:=fv) hz hgd) ?_
  rintro _ _ ⟨r2,_,rfl,rfl⟩
  show TC _ _ _ _ _ _ _ ((_,.agg #[.int .i64 r2.x,.int .i64 r2.y,.int .i64 r2.z])::_) _ _
  (repeat' first|(refine Ka ?_;first|refine Kb ?_|(refine Kc ?_;intro _))|refine Kd ?_|refine Ke ?_|refine Kf ?_|refine Kg rfl ?_|(refine Ki ?_;refine Kj ?_)|exact Kk|refine Kl ?_ ?_|(refine Km ?_;first|refine Kn ?_|(refine Ko ?_;intro _))|(refine Kp ?_;first|refine Kq ?_|refine Kr ?_)|refine Kh ?_)
  refine Tri.unroll 4 ?_
  (repeat' first|(refine Ka ?_;first|refine Kb ?_|(refine Kc ?_;intro _))|refine Kd ?_|refine Ke ?_|refine Kf ?_|refine Kg rfl ?_|(refine Ki ?_;refine Kj ?_)|exact Kk|refine Kl ?_ ?_|(refine Km ?_;first|refine Kn ?_|(refine Ko ?_;intro _))|(refine Kp ?_;first|refine Kq ?_|refine Kr ?_)|refine Kh ?_)
  refine TL.callv rfl rfl rfl rfl (winding_ok ht (pv:=.slice p1 P'.length c1) (fv:=.slice p2 F'.length c2) (pts:=P') (fcs:=F') (p:=r1)) ?_
  rintro _ _ ⟨rfl,rfl⟩
  have hW:=fun Bs [RdIn Bs (.slice p2 F'.length c2) V3 cV3 F'] [RdIn Bs (.slice p1 P'.length c1) V3 cV3 P']=>rWinding_ok (w0:=w0) (As:=Bs) (pv:=.slice p1 P'.length c1) (fv:=.slice p2 F'.length c2) (pts:=P') (fcs:=F') (p:=r1)
  generalize wndW P' F' r1=W at hW ⊢
  obtain ⟨W1,W2⟩:=W
  (repeat' first|(refine Ka ?_;first|refine Kb ?_|(refine Kc ?_;intro _))|refine Kd ?_|refine Ke ?_|refine Kf ?_|refine Kg rfl ?_|(refine Ki ?_;refine Kj ?_)|exact Kk|refine Kl ?_ ?_|(refine Km ?_;first|refine Kn ?_|(refine Ko ?_;intro _))|(refine Kp ?_;first|refine Kq ?_|refine Kr ?_)|refine Kh ?_)
  refine TL.callv rfl rfl rfl rfl (hW _) ?_
  rintro _ _ ⟨rfl,rfl⟩
  clear hW
  (repeat' first|(refine Ka ?_;first|refine Kb ?_|(refine Kc ?_;intro _))|refine Kd ?_|refine Ke ?_|refine Kf ?_|refine Kg rfl ?_|(refine Ki ?_;refine Kj ?_)|exact Kk|refine Kl ?_ ?_|(refine Km ?_;first|refine Kn ?_|(refine Ko ?_;intro _))|(refine Kp ?_;first|refine Kq ?_|refine Kr ?_)|refine Kh ?_)
  refine TL.callv rfl rfl rfl rfl (side_ok ht (pv:=.slice p1 P'.length c1) (fv:=.slice p2 F'.length c2) (pts:=P') (fcs:=F') (p:=r1)) ?_
  rintro _ _ ⟨rfl,rfl⟩
  have hS:=fun Bs [RdIn Bs (.slice p2 F'.length c2) V3 cV3 F'] [RdIn Bs (.slice p1 P'.length c1) V3 cV3 P']=>rSide_ok (w0:=w0) (As:=Bs) (pv:=.slice p1 P'.length c1) (fv:=.slice p2 F'.length c2) (pts:=P') (fcs:=F') (p:=r1)
  generalize sideW P' F' r1=S at hS ⊢
  obtain ⟨S1,S2⟩:=S
  (repeat' first|(refine Ka ?_;first|refine Kb ?_|(refine Kc ?_;intro _))|refine Kd ?_|refine Ke ?_|refine Kf ?_|refine Kg rfl ?_|refine Kh ?_)
  refine TL.callv rfl rfl rfl rfl (hS _) ?_
  rintro _ _ ⟨rfl,rfl⟩
  clear hS
  (repeat' first|(refine Ka ?_;first|refine Kb ?_|(refine Kc ?_;intro _))|refine Kd ?_|refine Ke ?_|refine Kf ?_|refine Kg rfl ?_|refine Kh ?_)
  (repeat' first|(refine Ka ?_;first|refine Kb ?_|(refine Kc ?_;intro _))|refine Kd ?_|refine Ke ?_|refine Kf ?_|refine Kg rfl ?_|refine Kh ?_)
  refine TL.callv rfl rfl rfl rfl (winding_ok ht (pv:=.slice p1 P'.length c1) (fv:=.slice p2 F'.length c2) (pts:=P') (fcs:=F') (p:=r2)) ?_
  rintro _ _ ⟨rfl,rfl⟩
  have hW:=fun Bs [RdIn Bs (.slice p2 F'.length c2) V3 cV3 F'] [RdIn Bs (.slice p1 P'.length c1) V3 cV3 P']=>rWinding_ok (w0:=w0) (As:=Bs) (pv:=.slice p1 P'.length c1) (fv:=.slice p2 F'.length c2) (pts:=P') (fcs:=F') (p:=r2)
  generalize wndW P' F' r2=W at hW ⊢
  obtain ⟨W1,W2⟩:=W
  (repeat' first|(refine Ka ?_;first|refine Kb ?_|(refine Kc ?_;intro _))|refine Kd ?_|refine Ke ?_|refine Kf ?_|refine Kg rfl ?_|refine Kh ?_)
  refine TL.callv rfl rfl rfl rfl (hW _) ?_
  rintro _ _ ⟨rfl,rfl⟩
  clear hW
  (repeat' first|(refine Ka ?_;first|refine Kb ?_|(refine Kc ?_;intro _))|refine Kd ?_|refine Ke ?_|refine Kf ?_|refine Kg rfl ?_|refine Kh ?_)
  refine TL.callv rfl rfl rfl rfl (side_ok ht (pv:=.slice p1 P'.length c1) (fv:=.slice p2 F'.length c2) (pts:=P') (fcs:=F') (p:=r2)) ?_
  rintro _ _ ⟨rfl,rfl⟩
  have hS:=fun Bs [RdIn Bs (.slice p2 F'.length c2) V3 cV3 F'] [RdIn Bs (.slice p1 P'.length c1) V3 cV3 P']=>rSide_ok (w0:=w0) (As:=Bs) (pv:=.slice p1 P'.length c1) (fv:=.slice p2 F'.length c2) (pts:=P') (fcs:=F') (p:=r2)
  generalize sideW P' F' r2=S at hS ⊢
  obtain ⟨S1,S2⟩:=S
  (repeat' first|(refine Ka ?_;first|refine Kb ?_|(refine Kc ?_;intro _))|refine Kd ?_|refine Ke ?_|refine Kf ?_|refine Kg rfl ?_|refine Kh ?_)
  refine TL.callv rfl rfl rfl rfl (hS _) ?_
  rintro _ _ ⟨rfl,rfl⟩
  clear hS
  (repeat' first|(refine Ka ?_;first|refine Kb ?_|(refine Kc ?_;intro _))|refine Kd ?_|refine Ke ?_|refine Kf ?_|refine Kg rfl ?_|refine Kh ?_)
  (repeat' first|(refine Ka ?_;first|refine Kb ?_|(refine Kc ?_;intro _))|refine Kd ?_|refine Ke ?_|refine Kf ?_|refine Kg rfl ?_|refine Kh ?_)
  refine TL.callv rfl rfl rfl rfl (winding_ok ht (pv:=.slice p1 P'.length c1) (fv:=.slice p2 F'.length c2) (pts:=P') (fcs:=F') (p:=q)) ?_
  rintro _ _ ⟨rfl,rfl⟩
  have hW:=fun Bs [RdIn Bs (.slice p2 F'.length c2) V3 cV3 F'] [RdIn Bs (.slice p1 P'.length c1) V3 cV3 P']=>rWinding_ok (w0:=w0) (As:=Bs) (pv:=.slice p1 P'.length c1) (fv:=.slice p2 F'.length c2) (pts:=P') (fcs:=F') (p:=q)
  generalize wndW P' F' q=W at hW ⊢
  obtain ⟨W1,W2⟩:=W
  (repeat' first|(refine Ka ?_;first|refine Kb ?_|(refine Kc ?_;intro _))|refine Kd ?_|refine Ke ?_|refine Kf ?_|refine Kg rfl ?_|refine Kh ?_)
  refine TL.callv rfl rfl rfl rfl (hW _) ?_
  rintro _ _ ⟨rfl,rfl⟩
  clear hW
  (repeat' first|(refine Ka ?_;first|refine Kb ?_|(refine Kc ?_;intro _))|refine Kd ?_|refine Ke ?_|refine Kf ?_|refine Kg rfl ?_|refine Kh ?_)
  refine TL.callv rfl rfl rfl rfl (side_ok ht (pv:=.slice p1 P'.length c1) (fv:=.slice p2 F'.length c2) (pts:=P') (fcs:=F') (p:=q)) ?_
  rintro _ _ ⟨rfl,rfl⟩
  have hS:=fun Bs [RdIn Bs (.slice p2 F'.length c2) V3 cV3 F'] [RdIn Bs (.slice p1 P'.length c1) V3 cV3 P']=>rSide_ok (w0:=w0) (As:=Bs) (pv:=.slice p1 P'.length c1) (fv:=.slice p2 F'.length c2) (pts:=P') (fcs:=F') (p:=q)
  generalize sideW P' F' q=S at hS ⊢
  obtain ⟨S1,S2⟩:=S
  (repeat' first|(refine Ka ?_;first|refine Kb ?_|(refine Kc ?_;intro _))|refine Kd ?_|refine Ke ?_|refine Kf ?_|refine Kg rfl ?_|refine Kh ?_)
  refine TL.callv rfl rfl rfl rfl (hS _) ?_
  rintro _ _ ⟨rfl,rfl⟩
  clear hS
  (repeat' first|(refine Ka ?_;first|refine Kb ?_|(refine Kc ?_;intro _))|refine Kd ?_|refine Ke ?_|refine Kf ?_|refine Kg rfl ?_|refine Kh ?_)
  refine TL.call rfl rfl rfl (works36_ok ht) ?_
  rintro _ _ ⟨rfl,rfl⟩
  (repeat' first|(refine Ka ?_;first|refine Kb ?_|(refine Kc ?_;intro _))|refine Kd ?_|refine Ke ?_|refine Kf ?_|refine Kg rfl ?_|refine Kh ?_)
  (refine Post.ra ?_)
  exact ⟨_,rfl,Ents.refl _⟩
end Go.Proofs.YtgapnfaakdjpaaaGreatDoor
