/- Walks: locate: determinants and weights. -/
import Derived.Test.YtbfgldlfciimiaaGreatDoorTp1
import Derived.Test.YtbfgldlfciimiaaGreatDoorSxB
import Derived.Test.YtbfgldlfciimiaaGreatDoorTy
import Derived.Test.YtbfgldlfciimiaaGreatDoorSxP
set_option maxHeartbeats 1000000
namespace Go.Sx
open Go
def V3.c (p:V3):List Value:=[.int .i64 p.x,.int .i64 p.y,.int .i64 p.z]
def matV (a b c:V3):Value:=.agg #[.int .i64 a.x,.int .i64 a.y,.int .i64 a.z,.int .i64 b.x,.int .i64 b.y,.int .i64 b.z,.int .i64 c.x,.int .i64 c.y,.int .i64 c.z]
theorem Zt6 {a b c:V3} (ha:a.in 70000) (hb:b.in 70000) (hc:c.in 70000):-2058000000000000≤dtP a b c∧dtP a b c≤2058000000000000:=by
 obtain ⟨a1,a2,a3,a4,a5,a6⟩:=ha
 obtain ⟨b1,b2,b3,b4,b5,b6⟩:=hb
 obtain ⟨c1,c2,c3,c4,c5,c6⟩:=hc
 have e1:=Zaq (m:=70000) (n:=70000) (by decide) (by decide) b3 b4 c5 c6
 have e2:=Zaq (m:=70000) (n:=70000) (by decide) (by decide) b5 b6 c3 c4
 have e3:=Zaq (m:=70000) (n:=70000) (by decide) (by decide) b1 b2 c5 c6
 have e4:=Zaq (m:=70000) (n:=70000) (by decide) (by decide) b5 b6 c1 c2
 have e5:=Zaq (m:=70000) (n:=70000) (by decide) (by decide) b1 b2 c3 c4
 have e6:=Zaq (m:=70000) (n:=70000) (by decide) (by decide) b3 b4 c1 c2
 have f1:=Zaq (m:=70000) (n:=9800000000) (by decide) (by decide) a1 a2 (show -9800000000≤b.y * c.z - b.z * c.y by omega) (by omega)
 have f2:=Zaq (m:=70000) (n:=9800000000) (by decide) (by decide) a3 a4 (show -9800000000≤b.x * c.z - b.z * c.x by omega) (by omega)
 have f3:=Zaq (m:=70000) (n:=9800000000) (by decide) (by decide) a5 a6 (show -9800000000≤b.x * c.y - b.y * c.x by omega) (by omega)
 unfold dtP
 omega
end Go.Sx
namespace Go.Proofs.YtbfgldlfciimiaaGreatDoor
open Go Go.Sx
variable {w0:World} {As:List Ent}
set_option maxRecDepth 100000 in
theorem Zdp {a b c:V3} (ha:a.in 70000) (hb:b.in 70000) (hc:c.in 70000):CQ Tryz.prog w0 65 [matV a b c] As (.int .i64 (dtP a b c)):=by
 obtain ⟨a1,a2,a3,a4,a5,a6⟩:=ha
 obtain ⟨b1,b2,b3,b4,b5,b6⟩:=hb
 obtain ⟨c1,c2,c3,c4,c5,c6⟩:=hc
 obtain ⟨ax,ay,az⟩:=a
 obtain ⟨bx,by_,bz⟩:=b
 obtain ⟨cx,cy,cz⟩:=c
 simp only at a1 a2 a3 a4 a5 a6 b1 b2 b3 b4 b5 b6 c1 c2 c3 c4 c5 c6
 have e1:=Zaq (m:=70000) (n:=70000) (by decide) (by decide) b3 b4 c5 c6
 have e2:=Zaq (m:=70000) (n:=70000) (by decide) (by decide) b5 b6 c3 c4
 have e3:=Zaq (m:=70000) (n:=70000) (by decide) (by decide) b1 b2 c5 c6
 have e4:=Zaq (m:=70000) (n:=70000) (by decide) (by decide) b5 b6 c1 c2
 have e5:=Zaq (m:=70000) (n:=70000) (by decide) (by decide) b1 b2 c3 c4
 have e6:=Zaq (m:=70000) (n:=70000) (by decide) (by decide) b3 b4 c1 c2
 have f1:=Zaq (m:=70000) (n:=9800000000) (by decide) (by decide) a1 a2 (show -9800000000≤by_ * cz - bz * cy by omega) (by omega)
 have f2:=Zaq (m:=70000) (n:=9800000000) (by decide) (by decide) a3 a4 (show -9800000000≤bx * cz - bz * cx by omega) (by omega)
 have f3:=Zaq (m:=70000) (n:=9800000000) (by decide) (by decide) a5 a6 (show -9800000000≤bx * cy - by_ * cx by omega) (by omega)
 refine Zab Tryz.func65 rfl Tryz.ntmps65 rfl ?_
 show Tri _ _ _ _ (env0 0 [.agg #[.int .i64 ax,.int .i64 ay,.int .i64 az,.int .i64 bx,.int .i64 by_,.int .i64 bz,.int .i64 cx,.int .i64 cy,.int .i64 cz]]) _ _
 repeat' first|refine Kz ?_|intro _
 rename_i b1
 refine Zaf [.cl b1 [.int .i64 ax,.int .i64 ay,.int .i64 az,.int .i64 bx,.int .i64 by_,.int .i64 bz,.int .i64 cx,.int .i64 cy,.int .i64 cz] 127] [] (.take 0 (.take 1 (.take 2 (.take 3 (.take 4 (.take 5 (.all [(6,.all [(7,.all [(8,.all [(9,.all [(10,.all [(11,.done)])])])]),(8,.all [(7,.all [(9,.all [(10,.all [(11,.done)])])])])]),(7,.all [(6,.all [(8,.all [(9,.all [(10,.all [(11,.done)])])])]),(8,.all [(6,.all [(9,.all [(10,.all [(11,.done)])])])])]),(8,.all [(6,.all [(7,.all [(9,.all [(10,.all [(11,.done)])])])]),(7,.all [(6,.all [(9,.all [(10,.all [(11,.done)])])])])])]))))))) ?_
 repeat' first|refine Kf ?_|intro _|constructor
 all_goals ((refine Zac ?_);exact ⟨_,⟨rfl,rfl⟩,Zaa⟩)
def rowX (k:Nat) (a b c g:V3):V3 × V3 × V3:=if k=0 then (g,b,c) else if k=1 then (a,g,c) else (a,b,g)
set_option maxRecDepth 100000 in
theorem Z60 {a b c g:V3} {s:Int} {br bg bs k:Nat} (hk:k < 3) (ha:a.in 70000) (hb:b.in 70000) (hc:c.in 70000) (hg:g.in 70000) (hs:s=1∨s=-1) :
  CallsS Tryz.prog w0 66 [.int .i64 (k:Int),.pointer (some ⟨br,0,none⟩),.pointer (some ⟨bg,0,none⟩),.pointer (some ⟨bs,0,none⟩)] (.cl br [.int .i64 a.x,.int .i64 a.y,.int .i64 a.z,.int .i64 b.x,.int .i64 b.y,.int .i64 b.z,.int .i64 c.x,.int .i64 c.y,.int .i64 c.z] 127::.cl bg [.int .i64 g.x,.int .i64 g.y,.int .i64 g.z] 39::.cl bs [.int .i64 s] 3::As)
   fun u Bs=>u=.int .i64 (s * dtP (rowX k a b c g).1 (rowX k a b c g).2.1 (rowX k a b c g).2.2)∧Bs=.cl br [.int .i64 a.x,.int .i64 a.y,.int .i64 a.z,.int .i64 b.x,.int .i64 b.y,.int .i64 b.z,.int .i64 c.x,.int .i64 c.y,.int .i64 c.z] 127::.cl bg [.int .i64 g.x,.int .i64 g.y,.int .i64 g.z] 39::.cl bs [.int .i64 s] 3::As:=by
 have h3:k=0∨k=1∨k=2:=by omega
 refine Zab Tryz.func66 rfl Tryz.ntmps66 rfl ?_
 rcases h3 with rfl|rfl|rfl
 ·have hd:=Zt6 (a:=g) (b:=b) (c:=c) (by assumption) (by assumption) (by assumption)
  have hm:=Zaq (m:=1) (n:=2058000000000000) (by decide) (by decide) (show -1≤s by omega) (show s≤1 by omega) hd.1 hd.2
  repeat' first|refine Kz ?_|intro _
  refine Zai (.take 0 (.take 1 (.all [(2,.take 3 (.take 4 (.done)))]))) ?_
  repeat' first|refine Kf ?_|intro _|constructor
  all_goals
   refine Ku rfl (Zdp (a:=g) (b:=b) (c:=c) (by assumption) (by assumption) (by assumption)) ?_
   repeat' first|refine Kf ?_|intro _|constructor
   exact Kv
 ·have hd:=Zt6 (a:=a) (b:=g) (c:=c) (by assumption) (by assumption) (by assumption)
  have hm:=Zaq (m:=1) (n:=2058000000000000) (by decide) (by decide) (show -1≤s by omega) (show s≤1 by omega) hd.1 hd.2
  repeat' first|refine Kz ?_|intro _
  refine Zai (.take 0 (.take 1 (.all [(2,.take 3 (.take 4 (.done)))]))) ?_
  repeat' first|refine Kf ?_|intro _|constructor
  all_goals
   refine Ku rfl (Zdp (a:=a) (b:=g) (c:=c) (by assumption) (by assumption) (by assumption)) ?_
   repeat' first|refine Kf ?_|intro _|constructor
   exact Kv
 ·have hd:=Zt6 (a:=a) (b:=b) (c:=g) (by assumption) (by assumption) (by assumption)
  have hm:=Zaq (m:=1) (n:=2058000000000000) (by decide) (by decide) (show -1≤s by omega) (show s≤1 by omega) hd.1 hd.2
  repeat' first|refine Kz ?_|intro _
  refine Zai (.take 0 (.take 1 (.all [(2,.take 3 (.take 4 (.done)))]))) ?_
  repeat' first|refine Kf ?_|intro _|constructor
  all_goals
   refine Ku rfl (Zdp (a:=a) (b:=b) (c:=g) (by assumption) (by assumption) (by assumption)) ?_
   repeat' first|refine Kf ?_|intro _|constructor
   exact Kv
end Go.Proofs.YtbfgldlfciimiaaGreatDoor
namespace Go.Sx
open Go
def tetV (ix od v0 v1 v2 v3:V3):Value:=.agg #[.int .i64 ix.x,.int .i64 ix.y,.int .i64 ix.z,.int .i64 od.x,.int .i64 od.y,.int .i64 od.z,.int .i64 v0.x,.int .i64 v0.y,.int .i64 v0.z,.int .i64 v1.x,.int .i64 v1.y,.int .i64 v1.z,.int .i64 v2.x,.int .i64 v2.y,.int .i64 v2.z,.int .i64 v3.x,.int .i64 v3.y,.int .i64 v3.z]
def wtF (D E0 E1 E2:Int):V3 × Int × Bool :=
 if D=0 then (V3.zero,0,false) else
 if (if D < 0 then -1 else 1) * E0 < 0 then (V3.zero,0,false) else
 if (if D < 0 then -1 else 1) * E1 < 0 then (V3.zero,0,false) else
 if (if D < 0 then -1 else 1) * E2 < 0 then (V3.zero,0,false) else
 (⟨(if D < 0 then -1 else 1) * E0,(if D < 0 then -1 else 1) * E1,(if D < 0 then -1 else 1) * E2⟩,D * (if D < 0 then -1 else 1),
   decide (0≤D * (if D < 0 then -1 else 1) - (if D < 0 then -1 else 1) * E0 - (if D < 0 then -1 else 1) * E1 - (if D < 0 then -1 else 1) * E2))
theorem Z9s {v0 v1 v2 v3 g:V3}:wtW v0 v1 v2 v3 g=wtF (dtP (v1.sub v0) (v2.sub v0) (v3.sub v0)) (dtP (g.sub v0) (v2.sub v0) (v3.sub v0)) (dtP (v1.sub v0) (g.sub v0) (v3.sub v0)) (dtP (v1.sub v0) (v2.sub v0) (g.sub v0)):=by
 unfold wtW wtF
 simp only
 rw [Int.mul_comm (dtP (v1.sub v0) (v2.sub v0) (v3.sub v0)) (if dtP (v1.sub v0) (v2.sub v0) (v3.sub v0) < 0 then -1 else 1)]
theorem Z59 {D E0 E1 E2 s:Int} (h0:D≠0) (hs:(if D < 0 then (-1:Int) else 1)=s):wtF D E0 E1 E2=if s * E0 < 0 then (V3.zero,0,false) else if s * E1 < 0 then (V3.zero,0,false) else if s * E2 < 0 then (V3.zero,0,false) else (⟨s * E0,s * E1,s * E2⟩,D * s,decide (0≤D * s - s * E0 - s * E1 - s * E2)):=by
 unfold wtF
 rw [if_neg h0,hs]
theorem Zka {p q:V3} (hp:in65 p) (hq:in65 q):(p.sub q).in 70000:=by
 obtain ⟨⟨a1,a2⟩,⟨a3,a4⟩,a5,a6⟩:=hp
 obtain ⟨⟨b1,b2⟩,⟨b3,b4⟩,b5,b6⟩:=hq
 refine ⟨?_,?_,?_,?_,?_,?_⟩<;>(show _≤_;simp only [V3.sub];omega)
end Go.Sx
namespace Go.Proofs.YtbfgldlfciimiaaGreatDoor
open Go Go.Sx
variable {w0:World} {As:List Ent}
set_option maxRecDepth 100000 in
set_option maxHeartbeats 4000000 in
theorem Zw2 {ix od v0 v1 v2 v3 g:V3} {tv:Value} [hr:RdIn As tv Int (cI .i64) [g.x,g.y,g.z]] (h0:in65 v0) (h1:in65 v1) (h2:in65 v2) (h3:in65 v3) (hg:in65 g) :
  CQ Tryz.prog w0 26 [tetV ix od v0 v1 v2 v3,tv] As (.tuple #[(wtW v0 v1 v2 v3 g).1.val,.int .i64 (wtW v0 v1 v2 v3 g).2.1,.bool (wtW v0 v1 v2 v3 g).2.2]):=by
 have r1:=Zka h1 h0
 have r2:=Zka h2 h0
 have r3:=Zka h3 h0
 have r4:=Zka hg h0
 obtain ⟨⟨a1,a2⟩,⟨a3,a4⟩,a5,a6⟩:=h0
 obtain ⟨⟨b1,b2⟩,⟨b3,b4⟩,b5,b6⟩:=h1
 obtain ⟨⟨c1,c2⟩,⟨c3,c4⟩,c5,c6⟩:=h2
 obtain ⟨⟨d1,d2⟩,⟨d3,d4⟩,d5,d6⟩:=h3
 obtain ⟨⟨e1,e2⟩,⟨e3,e4⟩,e5,e6⟩:=hg
 refine Zae tv fun tp tc et=>?_
 subst et
 have q0:([g.x,g.y,g.z]:List Int)[0]?=some g.x:=rfl
 have q1:([g.x,g.y,g.z]:List Int)[1]?=some g.y:=rfl
 have q2:([g.x,g.y,g.z]:List Int)[2]?=some g.z:=rfl
 have ql:([g.x,g.y,g.z]:List Int).length=3:=rfl
 generalize ([g.x,g.y,g.z]:List Int)=GL at *
 rw [ql] at hr
 rw [ql]
 have hdD:=Zt6 r1 r2 r3
 have hd0:=Zt6 r4 r2 r3
 have hd1:=Zt6 r1 r4 r3
 have hd2:=Zt6 r1 r2 r4
 rw [Z9s]
 refine Zab Tryz.func26 rfl Tryz.ntmps26 rfl ?_
 show Tri _ _ _ _ (env0 0 [.agg #[.int .i64 ix.x,.int .i64 ix.y,.int .i64 ix.z,.int .i64 od.x,.int .i64 od.y,.int .i64 od.z,.int .i64 v0.x,.int .i64 v0.y,.int .i64 v0.z,.int .i64 v1.x,.int .i64 v1.y,.int .i64 v1.z,.int .i64 v2.x,.int .i64 v2.y,.int .i64 v2.z,.int .i64 v3.x,.int .i64 v3.y,.int .i64 v3.z],.slice tp 3 tc]) _ _
 repeat' first|refine Kz ?_|intro _
 rename_i bT bW bR bG
 refine Zah 4 ?_
 repeat' first|refine Kz ?_|intro _
 refine Zah 4 ?_
 repeat' first|refine Kz ?_|intro _
 refine Zaf [.cl bT [.int .i64 ix.x,.int .i64 ix.y,.int .i64 ix.z,.int .i64 od.x,.int .i64 od.y,.int .i64 od.z,.int .i64 v0.x,.int .i64 v0.y,.int .i64 v0.z,.int .i64 v1.x,.int .i64 v1.y,.int .i64 v1.z,.int .i64 v2.x,.int .i64 v2.y,.int .i64 v2.z,.int .i64 v3.x,.int .i64 v3.y,.int .i64 v3.z] 77] [] (.take 0 (.take 1 (.take 2 (.take 3 (.take 4 (.take 5 (.take 6 (.take 7 (.take 8 (.take 9 (.take 10 (.take 11 (.take 12 (.take 13 (.take 14 (.take 15 (.take 16 (.all [(17,.done)])))))))))))))))))) ?_
 repeat' first|refine Kf ?_|intro _|constructor
 refine Zaf [.cl bT [.int .i64 ix.x,.int .i64 ix.y,.int .i64 ix.z,.int .i64 od.x,.int .i64 od.y,.int .i64 od.z,.int .i64 v0.x,.int .i64 v0.y,.int .i64 v0.z,.int .i64 v1.x,.int .i64 v1.y,.int .i64 v1.z,.int .i64 v2.x,.int .i64 v2.y,.int .i64 v2.z,.int .i64 v3.x,.int .i64 v3.y,.int .i64 v3.z] 77] [] (.take 0 (.take 1 (.take 2 (.take 3 (.take 4 (.take 5 (.take 6 (.take 7 (.take 8 (.take 9 (.take 10 (.take 11 (.take 12 (.take 13 (.take 14 (.take 15 (.take 16 (.all [(17,.done)])))))))))))))))))) ?_
 repeat' first|refine Kf ?_|intro _|constructor
 refine Zaf [.cl bT [.int .i64 ix.x,.int .i64 ix.y,.int .i64 ix.z,.int .i64 od.x,.int .i64 od.y,.int .i64 od.z,.int .i64 v0.x,.int .i64 v0.y,.int .i64 v0.z,.int .i64 v1.x,.int .i64 v1.y,.int .i64 v1.z,.int .i64 v2.x,.int .i64 v2.y,.int .i64 v2.z,.int .i64 v3.x,.int .i64 v3.y,.int .i64 v3.z] 77] [] (.take 0 (.take 1 (.take 2 (.take 3 (.take 4 (.take 5 (.take 6 (.take 7 (.take 8 (.take 9 (.take 10 (.take 11 (.take 12 (.take 13 (.take 14 (.take 15 (.take 16 (.all [(17,.done)])))))))))))))))))) ?_
 repeat' first|refine Kf ?_|intro _|constructor
 refine Zaf (.cl bT [.int .i64 ix.x,.int .i64 ix.y,.int .i64 ix.z,.int .i64 od.x,.int .i64 od.y,.int .i64 od.z,.int .i64 v0.x,.int .i64 v0.y,.int .i64 v0.z,.int .i64 v1.x,.int .i64 v1.y,.int .i64 v1.z,.int .i64 v2.x,.int .i64 v2.y,.int .i64 v2.z,.int .i64 v3.x,.int .i64 v3.y,.int .i64 v3.z] 77::As) [] (.take 0 (.take 1 (.take 2 (.take 3 (.take 4 (.take 5 (.take 6 (.take 7 (.take 8 (.take 9 (.take 10 (.take 11 (.all [(12,.done)]))))))))))))) ?_
 repeat' first|refine Kf ?_|intro _|constructor
 refine Zah 4 ?_
 repeat' first|refine Kz ?_|intro _
 refine Zaf [.cl bT [.int .i64 ix.x,.int .i64 ix.y,.int .i64 ix.z,.int .i64 od.x,.int .i64 od.y,.int .i64 od.z,.int .i64 v0.x,.int .i64 v0.y,.int .i64 v0.z,.int .i64 v1.x,.int .i64 v1.y,.int .i64 v1.z,.int .i64 v2.x,.int .i64 v2.y,.int .i64 v2.z,.int .i64 v3.x,.int .i64 v3.y,.int .i64 v3.z] 77] [] (.take 0 (.take 1 (.take 2 (.take 3 (.take 4 (.take 5 (.take 6 (.take 7 (.take 8 (.take 9 (.take 10 (.take 11 (.take 12 (.take 13 (.take 14 (.take 15 (.take 16 (.all [(17,.done)])))))))))))))))))) ?_
 repeat' first|refine Kf ?_|intro _|constructor
 refine Zaf [.cl bT [.int .i64 ix.x,.int .i64 ix.y,.int .i64 ix.z,.int .i64 od.x,.int .i64 od.y,.int .i64 od.z,.int .i64 v0.x,.int .i64 v0.y,.int .i64 v0.z,.int .i64 v1.x,.int .i64 v1.y,.int .i64 v1.z,.int .i64 v2.x,.int .i64 v2.y,.int .i64 v2.z,.int .i64 v3.x,.int .i64 v3.y,.int .i64 v3.z] 77] [] (.take 0 (.take 1 (.take 2 (.take 3 (.take 4 (.take 5 (.take 6 (.take 7 (.take 8 (.take 9 (.take 10 (.take 11 (.take 12 (.take 13 (.take 14 (.take 15 (.take 16 (.all [(17,.done)])))))))))))))))))) ?_
 repeat' first|refine Kf ?_|intro _|constructor
 refine Zaf [.cl bT [.int .i64 ix.x,.int .i64 ix.y,.int .i64 ix.z,.int .i64 od.x,.int .i64 od.y,.int .i64 od.z,.int .i64 v0.x,.int .i64 v0.y,.int .i64 v0.z,.int .i64 v1.x,.int .i64 v1.y,.int .i64 v1.z,.int .i64 v2.x,.int .i64 v2.y,.int .i64 v2.z,.int .i64 v3.x,.int .i64 v3.y,.int .i64 v3.z] 77] [] (.take 0 (.take 1 (.take 2 (.take 3 (.take 4 (.take 5 (.take 6 (.take 7 (.take 8 (.take 9 (.take 10 (.take 11 (.take 12 (.take 13 (.take 14 (.take 15 (.take 16 (.all [(17,.done)])))))))))))))))))) ?_
 repeat' first|refine Kf ?_|intro _|constructor
 refine Zaf (.cl bT [.int .i64 ix.x,.int .i64 ix.y,.int .i64 ix.z,.int .i64 od.x,.int .i64 od.y,.int .i64 od.z,.int .i64 v0.x,.int .i64 v0.y,.int .i64 v0.z,.int .i64 v1.x,.int .i64 v1.y,.int .i64 v1.z,.int .i64 v2.x,.int .i64 v2.y,.int .i64 v2.z,.int .i64 v3.x,.int .i64 v3.y,.int .i64 v3.z] 77::As) [] (.take 0 (.take 1 (.take 2 (.take 3 (.take 4 (.take 5 (.take 6 (.take 7 (.take 8 (.take 9 (.take 10 (.take 11 (.all [(12,.done)]))))))))))))) ?_
 repeat' first|refine Kf ?_|intro _|constructor
 refine Zah 4 ?_
 repeat' first|refine Kz ?_|intro _
 refine Zaf [.cl bT [.int .i64 ix.x,.int .i64 ix.y,.int .i64 ix.z,.int .i64 od.x,.int .i64 od.y,.int .i64 od.z,.int .i64 v0.x,.int .i64 v0.y,.int .i64 v0.z,.int .i64 v1.x,.int .i64 v1.y,.int .i64 v1.z,.int .i64 v2.x,.int .i64 v2.y,.int .i64 v2.z,.int .i64 v3.x,.int .i64 v3.y,.int .i64 v3.z] 77] [] (.take 0 (.take 1 (.take 2 (.take 3 (.take 4 (.take 5 (.take 6 (.take 7 (.take 8 (.take 9 (.take 10 (.take 11 (.take 12 (.take 13 (.take 14 (.take 15 (.take 16 (.all [(17,.done)])))))))))))))))))) ?_
 repeat' first|refine Kf ?_|intro _|constructor
 refine Zaf [.cl bT [.int .i64 ix.x,.int .i64 ix.y,.int .i64 ix.z,.int .i64 od.x,.int .i64 od.y,.int .i64 od.z,.int .i64 v0.x,.int .i64 v0.y,.int .i64 v0.z,.int .i64 v1.x,.int .i64 v1.y,.int .i64 v1.z,.int .i64 v2.x,.int .i64 v2.y,.int .i64 v2.z,.int .i64 v3.x,.int .i64 v3.y,.int .i64 v3.z] 77] [] (.take 0 (.take 1 (.take 2 (.take 3 (.take 4 (.take 5 (.take 6 (.take 7 (.take 8 (.take 9 (.take 10 (.take 11 (.take 12 (.take 13 (.take 14 (.take 15 (.take 16 (.all [(17,.done)])))))))))))))))))) ?_
 repeat' first|refine Kf ?_|intro _|constructor
 refine Zaf [.cl bT [.int .i64 ix.x,.int .i64 ix.y,.int .i64 ix.z,.int .i64 od.x,.int .i64 od.y,.int .i64 od.z,.int .i64 v0.x,.int .i64 v0.y,.int .i64 v0.z,.int .i64 v1.x,.int .i64 v1.y,.int .i64 v1.z,.int .i64 v2.x,.int .i64 v2.y,.int .i64 v2.z,.int .i64 v3.x,.int .i64 v3.y,.int .i64 v3.z] 77] [] (.take 0 (.take 1 (.take 2 (.take 3 (.take 4 (.take 5 (.take 6 (.take 7 (.take 8 (.take 9 (.take 10 (.take 11 (.take 12 (.take 13 (.take 14 (.take 15 (.take 16 (.all [(17,.done)])))))))))))))))))) ?_
 repeat' first|refine Kf ?_|intro _|constructor
 refine Zaf (.cl bT [.int .i64 ix.x,.int .i64 ix.y,.int .i64 ix.z,.int .i64 od.x,.int .i64 od.y,.int .i64 od.z,.int .i64 v0.x,.int .i64 v0.y,.int .i64 v0.z,.int .i64 v1.x,.int .i64 v1.y,.int .i64 v1.z,.int .i64 v2.x,.int .i64 v2.y,.int .i64 v2.z,.int .i64 v3.x,.int .i64 v3.y,.int .i64 v3.z] 77::As) [] (.take 0 (.take 1 (.take 2 (.take 3 (.take 4 (.take 5 (.take 6 (.take 7 (.take 8 (.take 9 (.take 10 (.take 11 (.all [(12,.done)]))))))))))))) ?_
 repeat' first|refine Kf ?_|intro _|constructor
 refine Ks rfl (Zdp (a:=v1.sub v0) (b:=v2.sub v0) (c:=v3.sub v0) r1 r2 r3) ?_
 have hw:=fun (k:Nat) (hk:k < 3) (s:Int) (hs:s=1∨s=-1) (bs:Nat) (Bs:List Ent)=>Z60 (w0:=w0) (As:=Bs) (a:=v1.sub v0) (b:=v2.sub v0) (c:=v3.sub v0) (g:=g.sub v0) (s:=s) (br:=bR) (bg:=bG) (bs:=bs) hk r1 r2 r3 r4 hs
 have hw0:=fun s hs bs Bs=>hw 0 (by decide) s hs bs Bs
 have hw1:=fun s hs bs Bs=>hw 1 (by decide) s hs bs Bs
 have hw2:=fun s hs bs Bs=>hw 2 (by decide) s hs bs Bs
 simp only [rowX,if_true,Nat.reduceEqDiff,if_false,V3.sub] at hw0 hw1 hw2
 simp only [V3.sub] at hdD hd0 hd1 hd2 ⊢
 clear hw r1 r2 r3 r4
 generalize dtP ⟨v1.x - v0.x,v1.y - v0.y,v1.z - v0.z⟩ ⟨v2.x - v0.x,v2.y - v0.y,v2.z - v0.z⟩ ⟨v3.x - v0.x,v3.y - v0.y,v3.z - v0.z⟩=D at *
 generalize dtP ⟨g.x - v0.x,g.y - v0.y,g.z - v0.z⟩ ⟨v2.x - v0.x,v2.y - v0.y,v2.z - v0.z⟩ ⟨v3.x - v0.x,v3.y - v0.y,v3.z - v0.z⟩=E0 at *
 generalize dtP ⟨v1.x - v0.x,v1.y - v0.y,v1.z - v0.z⟩ ⟨g.x - v0.x,g.y - v0.y,g.z - v0.z⟩ ⟨v3.x - v0.x,v3.y - v0.y,v3.z - v0.z⟩=E1 at *
 generalize dtP ⟨v1.x - v0.x,v1.y - v0.y,v1.z - v0.z⟩ ⟨v2.x - v0.x,v2.y - v0.y,v2.z - v0.z⟩ ⟨g.x - v0.x,g.y - v0.y,g.z - v0.z⟩=E2 at *
 by_cases hD:D=0
 ·repeat' first|refine Kz ?_|intro _
  (refine Zac ?_)
  exact ⟨_,⟨by unfold wtF;rw [if_pos hD];rfl,rfl⟩,Zaa⟩
 by_cases hn:D < 0
 ·have hF:=fun E0 E1 E2=>Z59 (E0:=E0) (E1:=E1) (E2:=E2) (s:=(-1)) hD (if_pos hn)
  rw [hF]
  repeat' first|refine Kz ?_|intro _
  rename_i bS
  refine Zah 4 ?_
  repeat' first|refine Kz ?_|intro _
  refine TL.ents (show Ents _ (.cl bR [.int .i64 (v1.x - v0.x),.int .i64 (v1.y - v0.y),.int .i64 (v1.z - v0.z),.int .i64 (v2.x - v0.x),.int .i64 (v2.y - v0.y),.int .i64 (v2.z - v0.z),.int .i64 (v3.x - v0.x),.int .i64 (v3.y - v0.y),.int .i64 (v3.z - v0.z)] 127::.cl bG [.int .i64 (g.x - v0.x),.int .i64 (g.y - v0.y),.int .i64 (g.z - v0.z)] 39::.cl bS [.int .i64 (-1)] 3::.cl bW [.int .i64 0,.int .i64 0,.int .i64 0] 39::.cl bT [.int .i64 ix.x,.int .i64 ix.y,.int .i64 ix.z,.int .i64 od.x,.int .i64 od.y,.int .i64 od.z,.int .i64 v0.x,.int .i64 v0.y,.int .i64 v0.z,.int .i64 v1.x,.int .i64 v1.y,.int .i64 v1.z,.int .i64 v2.x,.int .i64 v2.y,.int .i64 v2.z,.int .i64 v3.x,.int .i64 v3.y,.int .i64 v3.z] 77::As) from Zaa) ?_
  refine Ks rfl (hw0 (-1) (by omega) bS _) ?_
  by_cases hc0:(-1) * E0 < 0
  ·rw [if_pos hc0]
   repeat' first|refine Kz ?_|intro _
   exact Kv
  repeat' first|refine Kz ?_|intro _
  refine TL.ents (show Ents _ (.cl bR [.int .i64 (v1.x - v0.x),.int .i64 (v1.y - v0.y),.int .i64 (v1.z - v0.z),.int .i64 (v2.x - v0.x),.int .i64 (v2.y - v0.y),.int .i64 (v2.z - v0.z),.int .i64 (v3.x - v0.x),.int .i64 (v3.y - v0.y),.int .i64 (v3.z - v0.z)] 127::.cl bG [.int .i64 (g.x - v0.x),.int .i64 (g.y - v0.y),.int .i64 (g.z - v0.z)] 39::.cl bS [.int .i64 (-1)] 3::.cl bW [.int .i64 ((-1) * E0),.int .i64 0,.int .i64 0] 39::.cl bT [.int .i64 ix.x,.int .i64 ix.y,.int .i64 ix.z,.int .i64 od.x,.int .i64 od.y,.int .i64 od.z,.int .i64 v0.x,.int .i64 v0.y,.int .i64 v0.z,.int .i64 v1.x,.int .i64 v1.y,.int .i64 v1.z,.int .i64 v2.x,.int .i64 v2.y,.int .i64 v2.z,.int .i64 v3.x,.int .i64 v3.y,.int .i64 v3.z] 77::As) from Zaa) ?_
  refine Ks rfl (hw1 (-1) (by omega) bS _) ?_
  by_cases hc1:(-1) * E1 < 0
  ·rw [if_neg hc0,if_pos hc1]
   repeat' first|refine Kz ?_|intro _
   exact Kv
  repeat' first|refine Kz ?_|intro _
  refine TL.ents (show Ents _ (.cl bR [.int .i64 (v1.x - v0.x),.int .i64 (v1.y - v0.y),.int .i64 (v1.z - v0.z),.int .i64 (v2.x - v0.x),.int .i64 (v2.y - v0.y),.int .i64 (v2.z - v0.z),.int .i64 (v3.x - v0.x),.int .i64 (v3.y - v0.y),.int .i64 (v3.z - v0.z)] 127::.cl bG [.int .i64 (g.x - v0.x),.int .i64 (g.y - v0.y),.int .i64 (g.z - v0.z)] 39::.cl bS [.int .i64 (-1)] 3::.cl bW [.int .i64 ((-1) * E0),.int .i64 ((-1) * E1),.int .i64 0] 39::.cl bT [.int .i64 ix.x,.int .i64 ix.y,.int .i64 ix.z,.int .i64 od.x,.int .i64 od.y,.int .i64 od.z,.int .i64 v0.x,.int .i64 v0.y,.int .i64 v0.z,.int .i64 v1.x,.int .i64 v1.y,.int .i64 v1.z,.int .i64 v2.x,.int .i64 v2.y,.int .i64 v2.z,.int .i64 v3.x,.int .i64 v3.y,.int .i64 v3.z] 77::As) from Zaa) ?_
  refine Ks rfl (hw2 (-1) (by omega) bS _) ?_
  by_cases hc2:(-1) * E2 < 0
  ·rw [if_neg hc0,if_neg hc1,if_pos hc2]
   repeat' first|refine Kz ?_|intro _
   exact Kv
  repeat' first|refine Kz ?_|intro _
  rw [if_neg hc0,if_neg hc1,if_neg hc2]
  exact Kv
 ·have hF:=fun E0 E1 E2=>Z59 (E0:=E0) (E1:=E1) (E2:=E2) (s:=1) hD (if_neg hn)
  rw [hF]
  repeat' first|refine Kz ?_|intro _
  rename_i bS
  refine Zah 4 ?_
  repeat' first|refine Kz ?_|intro _
  refine TL.ents (show Ents _ (.cl bR [.int .i64 (v1.x - v0.x),.int .i64 (v1.y - v0.y),.int .i64 (v1.z - v0.z),.int .i64 (v2.x - v0.x),.int .i64 (v2.y - v0.y),.int .i64 (v2.z - v0.z),.int .i64 (v3.x - v0.x),.int .i64 (v3.y - v0.y),.int .i64 (v3.z - v0.z)] 127::.cl bG [.int .i64 (g.x - v0.x),.int .i64 (g.y - v0.y),.int .i64 (g.z - v0.z)] 39::.cl bS [.int .i64 1] 3::.cl bW [.int .i64 0,.int .i64 0,.int .i64 0] 39::.cl bT [.int .i64 ix.x,.int .i64 ix.y,.int .i64 ix.z,.int .i64 od.x,.int .i64 od.y,.int .i64 od.z,.int .i64 v0.x,.int .i64 v0.y,.int .i64 v0.z,.int .i64 v1.x,.int .i64 v1.y,.int .i64 v1.z,.int .i64 v2.x,.int .i64 v2.y,.int .i64 v2.z,.int .i64 v3.x,.int .i64 v3.y,.int .i64 v3.z] 77::As) from Zaa) ?_
  refine Ks rfl (hw0 1 (by omega) bS _) ?_
  by_cases hc0:1 * E0 < 0
  ·rw [if_pos hc0]
   repeat' first|refine Kz ?_|intro _
   exact Kv
  repeat' first|refine Kz ?_|intro _
  refine TL.ents (show Ents _ (.cl bR [.int .i64 (v1.x - v0.x),.int .i64 (v1.y - v0.y),.int .i64 (v1.z - v0.z),.int .i64 (v2.x - v0.x),.int .i64 (v2.y - v0.y),.int .i64 (v2.z - v0.z),.int .i64 (v3.x - v0.x),.int .i64 (v3.y - v0.y),.int .i64 (v3.z - v0.z)] 127::.cl bG [.int .i64 (g.x - v0.x),.int .i64 (g.y - v0.y),.int .i64 (g.z - v0.z)] 39::.cl bS [.int .i64 1] 3::.cl bW [.int .i64 (1 * E0),.int .i64 0,.int .i64 0] 39::.cl bT [.int .i64 ix.x,.int .i64 ix.y,.int .i64 ix.z,.int .i64 od.x,.int .i64 od.y,.int .i64 od.z,.int .i64 v0.x,.int .i64 v0.y,.int .i64 v0.z,.int .i64 v1.x,.int .i64 v1.y,.int .i64 v1.z,.int .i64 v2.x,.int .i64 v2.y,.int .i64 v2.z,.int .i64 v3.x,.int .i64 v3.y,.int .i64 v3.z] 77::As) from Zaa) ?_
  refine Ks rfl (hw1 1 (by omega) bS _) ?_
  by_cases hc1:1 * E1 < 0
  ·rw [if_neg hc0,if_pos hc1]
   repeat' first|refine Kz ?_|intro _
   exact Kv
  repeat' first|refine Kz ?_|intro _
  refine TL.ents (show Ents _ (.cl bR [.int .i64 (v1.x - v0.x),.int .i64 (v1.y - v0.y),.int .i64 (v1.z - v0.z),.int .i64 (v2.x - v0.x),.int .i64 (v2.y - v0.y),.int .i64 (v2.z - v0.z),.int .i64 (v3.x - v0.x),.int .i64 (v3.y - v0.y),.int .i64 (v3.z - v0.z)] 127::.cl bG [.int .i64 (g.x - v0.x),.int .i64 (g.y - v0.y),.int .i64 (g.z - v0.z)] 39::.cl bS [.int .i64 1] 3::.cl bW [.int .i64 (1 * E0),.int .i64 (1 * E1),.int .i64 0] 39::.cl bT [.int .i64 ix.x,.int .i64 ix.y,.int .i64 ix.z,.int .i64 od.x,.int .i64 od.y,.int .i64 od.z,.int .i64 v0.x,.int .i64 v0.y,.int .i64 v0.z,.int .i64 v1.x,.int .i64 v1.y,.int .i64 v1.z,.int .i64 v2.x,.int .i64 v2.y,.int .i64 v2.z,.int .i64 v3.x,.int .i64 v3.y,.int .i64 v3.z] 77::As) from Zaa) ?_
  refine Ks rfl (hw2 1 (by omega) bS _) ?_
  by_cases hc2:1 * E2 < 0
  ·rw [if_neg hc0,if_neg hc1,if_pos hc2]
   repeat' first|refine Kz ?_|intro _
   exact Kv
  repeat' first|refine Kz ?_|intro _
  rw [if_neg hc0,if_neg hc1,if_neg hc2]
  exact Kv
end Go.Proofs.YtbfgldlfciimiaaGreatDoor
