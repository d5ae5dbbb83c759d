/- Walks: IntentPresses. -/
import Derived.Test.YtngcfjfaobcpmaaGreatDoorNg2
set_option maxHeartbeats 1000000
namespace Go.Proofs.YtngcfjfaobcpmaaGreatDoor
open Go Go.Sx
variable {w0:World} {As:List Ent} {pv fv:Value} {pts fcs:List V3}
set_option maxRecDepth 100000 in
set_option maxHeartbeats 8000000 in
theorem Zl3 (ht:Tab w0) (he:ErrR w0) (g:DraftA) (hg:g.ok) {l:Int} (hl:0≤l∧l≤65535) (d:DraftA) (hd:d.ok) {y:PlaceA} (hy:y.ok) {q:V3} {s t m n:Int} (_hs:-9223372036854775808≤s∧s≤9223372036854775807) (_ht':-9223372036854775808≤t∧t≤9223372036854775807) (hm:0≤m∧m≤65535) (hn:0≤n∧n≤65535) [RdIn As g.ov Int (cI .i8) g.off] [RdIn As d.ov Int (cI .i8) d.off] :
  CallsS Tryz.prog w0 5 [.agg (g.cells++[Value.int .u16 l]).toArray,.agg d.cells.toArray,.agg y.cells.toArray,q.val,.agg #[.int .i64 s,.int .i64 t],.agg #[.int .u16 m,.int .u16 n]] As fun u _=>u=.bool true:=by
 refine Zak g.ov (xs:=g.off) (c:=cI .i8) fun hov=>Zak d.ov (xs:=d.off) (c:=cI .i8) fun hov'=>?_
 refine Zab Tryz.func5 rfl Tryz.ntmps5 rfl ?_
 show Tri _ _ _ _ (env0 0 [.agg #[.int .u8 g.kd,.int .u8 g.sz,.int .i16 g.a0,.int .i16 g.a1,.int .i16 g.a2,g.ov,.bool g.tn,.int .u16 l],.agg #[.int .u8 d.kd,.int .u8 d.sz,.int .i16 d.a0,.int .i16 d.a1,.int .i16 d.a2,d.ov,.bool d.tn],.agg #[.int .u8 y.a0,.int .u8 y.a1,.int .u8 y.a2,.int .u8 y.w0,.int .u8 y.w1,.int .u8 y.w2,.int .i16 y.o0,.int .i16 y.o1,.int .i16 y.o2],.agg #[.int .i64 q.x,.int .i64 q.y,.int .i64 q.z],.agg #[.int .i64 s,.int .i64 t],.agg #[.int .u16 m,.int .u16 n]]) _ _
 repeat' first|refine Kz ?_|intro _
 rename_i b6 b7 b8 b9 b10 b11
 refine TL.callv rfl rfl rfl rfl (Zjk g hg hl d hd) ?_
 rintro _ _ ⟨P0,F0,P1,F1,F2,pv,fv,pv',fv',gv,g0,g1,rfl,rfl⟩
 refine Zbn (c:=cV3) (xs:=P0) pv fun p0 c0 e0=>Zbn (c:=cV3) (xs:=F0) fv fun p1 c1 e1=>Zbn (c:=cV3) (xs:=P1) pv' fun p2 c2 e2=>Zbn (c:=cV3) (xs:=F1) fv' fun p3 c3 e3=>Zbn (c:=cV3) (xs:=F2) gv fun p4 c4 e4=>?_
 subst e0 e1 e2 e3 e4
 repeat' first|refine Kz ?_|intro _
 refine Zah 4 ?_
 repeat' first|refine Kz ?_|intro _
 rename_i b14
 refine Zaf [.cl b8 [.int .u8 y.a0,.int .u8 y.a1,.int .u8 y.a2,.int .u8 y.w0,.int .u8 y.w1,.int .u8 y.w2,.int .i16 y.o0,.int .i16 y.o1,.int .i16 y.o2] 32,.cl b14 [.slice p0 P0.length c0,.slice p1 F0.length c1] 36,.cl b9 [.int .i64 q.x,.int .i64 q.y,.int .i64 q.z] 33] [] (.take 0 (.take 1 (.take 3 (.take 5 (.all [(2,.take 4 (.done))]))))) ?_
 repeat' first|refine Kf ?_|intro _|constructor
 refine T1.callv rfl rfl rfl rfl rfl (Zca (x:=y) (pv:=.slice p0 P0.length c0) (fv:=.slice p1 F0.length c1) hy g0) ?_
 rintro _ _ ⟨r,_,rfl,rfl⟩
 show TC _ _ _ _ _ _ _ ((_,.agg #[.int .i64 r.x,.int .i64 r.y,.int .i64 r.z])::_) _ _
 repeat' first|refine Kf ?_|intro _|constructor
 refine Zah 3 ?_
 iterate 2
  repeat' first|refine Kf ?_|intro _|constructor
  refine Zah 3 ?_
  iterate 2
   repeat' first|refine Kf ?_|intro _|constructor
   refine TL.callv rfl rfl rfl rfl (Zhx ht he (pv:=.slice p0 P0.length c0) (fv:=.slice p1 F0.length c1) (p:=⟨_,_,_⟩)) ?_
   rintro _ _ ⟨o,hW,rfl,rfl⟩
   repeat' first|refine Kz ?_|intro _
   refine Ks rfl (Zgt (pv:=.slice p0 P0.length c0) (fv:=.slice p1 F0.length c1) (p:=⟨_,_,_⟩) hW) ?_
   clear hW
   repeat' first|refine Kz ?_|intro _
   refine TL.f rfl rfl (Zea rfl rfl) ?_
   rw [Zpe]
   repeat' first|refine Kz ?_|intro _
 repeat' first|refine Kf ?_|intro _|constructor
 rename_i b14
 refine Zaf [.cl b8 [.int .u8 y.a0,.int .u8 y.a1,.int .u8 y.a2,.int .u8 y.w0,.int .u8 y.w1,.int .u8 y.w2,.int .i16 y.o0,.int .i16 y.o1,.int .i16 y.o2] 32,.cl b14 [.slice p2 P1.length c2,.slice p3 F1.length c3] 36,.cl b9 [.int .i64 q.x,.int .i64 q.y,.int .i64 q.z] 33] [] (.take 0 (.take 1 (.take 3 (.take 5 (.all [(2,.take 4 (.done))]))))) ?_
 repeat' first|refine Kf ?_|intro _|constructor
 refine T1.callv rfl rfl rfl rfl rfl (Zca (x:=y) (pv:=.slice p2 P1.length c2) (fv:=.slice p3 F1.length c3) hy g1) ?_
 rintro _ _ ⟨r,_,rfl,rfl⟩
 show TC _ _ _ _ _ _ _ ((_,.agg #[.int .i64 r.x,.int .i64 r.y,.int .i64 r.z])::_) _ _
 repeat' first|refine Kf ?_|intro _|constructor
 refine Zah 3 ?_
 iterate 2
  repeat' first|refine Kf ?_|intro _|constructor
  refine Zah 3 ?_
  iterate 2
   repeat' first|refine Kf ?_|intro _|constructor
   refine TL.callv rfl rfl rfl rfl (Zhx ht he (pv:=.slice p2 P1.length c2) (fv:=.slice p3 F1.length c3) (p:=⟨_,_,_⟩)) ?_
   rintro _ _ ⟨o,hW,rfl,rfl⟩
   repeat' first|refine Kz ?_|intro _
   refine Ks rfl (Zgt (pv:=.slice p2 P1.length c2) (fv:=.slice p3 F1.length c3) (p:=⟨_,_,_⟩) hW) ?_
   clear hW
   repeat' first|refine Kz ?_|intro _
   refine TL.f rfl rfl (Zea rfl rfl) ?_
   rw [Zpe]
   repeat' first|refine Kz ?_|intro _
 repeat' first|refine Kf ?_|intro _|constructor
 rename_i b14
 refine Zaf [.cl b8 [.int .u8 y.a0,.int .u8 y.a1,.int .u8 y.a2,.int .u8 y.w0,.int .u8 y.w1,.int .u8 y.w2,.int .i16 y.o0,.int .i16 y.o1,.int .i16 y.o2] 32,.cl b14 [.slice p0 P0.length c0,.slice p4 F2.length c4] 36,.cl b9 [.int .i64 q.x,.int .i64 q.y,.int .i64 q.z] 33] [] (.take 0 (.take 1 (.take 3 (.take 5 (.all [(2,.take 4 (.done))]))))) ?_
 repeat' first|refine Kf ?_|intro _|constructor
 refine T1.callv rfl rfl rfl rfl rfl (Zca (x:=y) (pv:=.slice p0 P0.length c0) (fv:=.slice p4 F2.length c4) hy g0) ?_
 rintro _ _ ⟨r,_,rfl,rfl⟩
 show TC _ _ _ _ _ _ _ ((_,.agg #[.int .i64 r.x,.int .i64 r.y,.int .i64 r.z])::_) _ _
 repeat' first|refine Kf ?_|intro _|constructor
 refine Zah 3 ?_
 iterate 2
  repeat' first|refine Kf ?_|intro _|constructor
  refine Zah 3 ?_
  iterate 2
   repeat' first|refine Kf ?_|intro _|constructor
   refine TL.callv rfl rfl rfl rfl (Zhx ht he (pv:=.slice p0 P0.length c0) (fv:=.slice p4 F2.length c4) (p:=⟨_,_,_⟩)) ?_
   rintro _ _ ⟨o,hW,rfl,rfl⟩
   repeat' first|refine Kz ?_|intro _
   refine Ks rfl (Zgt (pv:=.slice p0 P0.length c0) (fv:=.slice p4 F2.length c4) (p:=⟨_,_,_⟩) hW) ?_
   clear hW
   repeat' first|refine Kz ?_|intro _
   refine TL.f rfl rfl (Zea rfl rfl) ?_
   rw [Zpe]
   repeat' first|refine Kz ?_|intro _
 repeat' first|refine Kf ?_|intro _|constructor
 refine Kt rfl (Zey ht he) ?_
 repeat' first|refine Kz ?_|intro _
 (refine Zac ?_)
 exact ⟨_,rfl,Ents.refl _⟩
end Go.Proofs.YtngcfjfaobcpmaaGreatDoor
