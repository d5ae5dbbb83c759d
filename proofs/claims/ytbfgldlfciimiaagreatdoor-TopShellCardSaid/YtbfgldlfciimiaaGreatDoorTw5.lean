/- Walks: locate: the inputs that the weights stand for. -/
import Derived.Test.YtbfgldlfciimiaaGreatDoorTw4
import Derived.Test.YtbfgldlfciimiaaGreatDoorIx1
import Derived.Test.YtbfgldlfciimiaaGreatDoorSxA
set_option maxHeartbeats 1000000
namespace Go.Sx
open Go
def cFq:Cod (List UInt8 × List UInt8):=⟨2,fun p=>[.string ⟨p.1.toArray⟩,.string ⟨p.2.toArray⟩],fun _=>rfl,fun p v hv=>by
 simp only [List.mem_cons,List.not_mem_nil,or_false] at hv
 rcases hv with rfl|rfl<;>rfl⟩
instance {a b:List UInt8}:EncL cFq (a,b) [.string ⟨a.toArray⟩,.string ⟨b.toArray⟩]:=⟨rfl⟩
instance {a b:List UInt8}:DecL cFq [.string ⟨a.toArray⟩,.string ⟨b.toArray⟩] (a,b):=⟨rfl⟩
def fq (n d:Int):List UInt8 × List UInt8:=(tN (qI n d),tD (qI n d))
theorem Zbs {x W r n d:Int} {D:Int} (h:x * W+r=n * W) (hW:0 < W) (hD:D=W * d):fq (x * W+r) D=fq n d:=by
 have e:qI (n * W) (W * d)=qI n d:=by
  rw [Zq3,Zq3,Int.mul_comm n W]
  exact Rat.divInt_mul_left (by omega)
 unfold fq
 rw [h,hD,e]
end Go.Sx
namespace Go.Proofs.YtbfgldlfciimiaaGreatDoor
open Go Go.Sx
variable {w0:World} {As:List Ent}
instance:ElC Tryz.prog 47 (List UInt8 × List UInt8) cFq ([],[]) 32:=⟨by obtain ⟨i,h1,h2,h3,h4⟩:=(inferInstance:TI Tryz.prog 47 _ _ _).info;exact ⟨i,_,h1,h2,h3,h4,rfl⟩,by decide⟩
theorem Zcf (ht:Tab w0) {n d:Int} (hn:-9223372036854775807≤n∧n≤9223372036854775807) (hd:-9223372036854775807≤d∧d≤9223372036854775807) (h0:d≠0) {q r:List UInt8} (hq:fq n d=(q,r)) :
  CQ Tryz.prog w0 67 [.int .i64 n,.int .i64 d] As (.tuple #[.agg #[.string ⟨q.toArray⟩,.string ⟨r.toArray⟩],.int .i64 0]):=by
 obtain ⟨rfl,rfl⟩:=Prod.mk.inj hq
 exact Zlf ht hn hd h0
set_option maxRecDepth 100000 in
set_option maxHeartbeats 8000000 in
theorem Z0y (ht:Tab w0) {sv:Value} {a b c i j k m:Nat} {W y0 y1 y2:Int} {n v0 v1 v2 v3:V3} [hs:RdIn As sv Int (cI .i64) [(a:Int),(b:Int),(c:Int)]] (ha2:2≤a) (ha5:a≤5) (hb2:2≤b) (hb4:b≤4) (hc2:2≤c) (hc4:c≤4) (hi:i < 5) (hj:j < 5) (hk:k < 5) (hm:m < 6) (hW:0 < W∧W≤2000000000000)
  (hy0:0≤y0∧y0≤2000000000000) (hy1:0≤y1∧y1≤2000000000000) (hy2:0≤y2∧y2≤2000000000000)
  (hr2:comp ⟨i,j,k⟩ (ordL m 2) * W+(0+y2)=comp n (ordL m 2) * W) (hr1:comp ⟨i,j,k⟩ (ordL m 1) * W+(0+y2+y1)=comp n (ordL m 1) * W) (hr0:comp ⟨i,j,k⟩ (ordL m 0) * W+(0+y2+y1+y0)=comp n (ordL m 0) * W) :
  CallsS Tryz.prog w0 27 [tetV ⟨i,j,k⟩ ⟨ordL m 0,ordL m 1,ordL m 2⟩ v0 v1 v2 v3,sv,.agg #[.int .i64 y0,.int .i64 y1,.int .i64 y2],.int .i64 W] As
   fun u Bs=>∃ v,u=.tuple #[v,.int .i64 0]∧Bs=.ow cFq 47 v [fq n.x ((a - 1:Nat):Int),fq n.y ((b - 1:Nat):Int),fq n.z ((c - 1:Nat):Int)]::As:=by
 obtain ⟨SL,hSL⟩:∃ SL:List Int,SL=[(a:Int),(b:Int),(c:Int)]:=⟨_,rfl⟩
 have s0:SL[0]?=some (a:Int):=by rw [hSL];rfl
 have s1:SL[1]?=some (b:Int):=by rw [hSL];rfl
 have s2:SL[2]?=some (c:Int):=by rw [hSL];rfl
 have ql:SL.length=3:=by rw [hSL];rfl
 rw [← hSL] at hs
 clear hSL
 have hPi:=Zaq (m:=5) (n:=2000000000000) (by decide) (by decide) (show -5≤(i:Int) by omega) (show (i:Int)≤5 by omega) (show -2000000000000≤W by omega) (show W≤2000000000000 by omega)
 have hPj:=Zaq (m:=5) (n:=2000000000000) (by decide) (by decide) (show -5≤(j:Int) by omega) (show (j:Int)≤5 by omega) (show -2000000000000≤W by omega) (show W≤2000000000000 by omega)
 have hPk:=Zaq (m:=5) (n:=2000000000000) (by decide) (by decide) (show -5≤(k:Int) by omega) (show (k:Int)≤5 by omega) (show -2000000000000≤W by omega) (show W≤2000000000000 by omega)
 have hQa:=Zaq (m:=2000000000000) (n:=5) (by decide) (by decide) (show -2000000000000≤W by omega) (show W≤2000000000000 by omega) (show -5≤((a - 1:Nat):Int) by omega) (show ((a - 1:Nat):Int)≤5 by omega)
 have hZa:W * ((a - 1:Nat):Int)≠0:=Int.mul_ne_zero (by omega) (by omega)
 have hQb:=Zaq (m:=2000000000000) (n:=5) (by decide) (by decide) (show -2000000000000≤W by omega) (show W≤2000000000000 by omega) (show -5≤((b - 1:Nat):Int) by omega) (show ((b - 1:Nat):Int)≤5 by omega)
 have hZb:W * ((b - 1:Nat):Int)≠0:=Int.mul_ne_zero (by omega) (by omega)
 have hQc:=Zaq (m:=2000000000000) (n:=5) (by decide) (by decide) (show -2000000000000≤W by omega) (show W≤2000000000000 by omega) (show -5≤((c - 1:Nat):Int) by omega) (show ((c - 1:Nat):Int)≤5 by omega)
 have hZc:W * ((c - 1:Nat):Int)≠0:=Int.mul_ne_zero (by omega) (by omega)
 refine Zab Tryz.func27 rfl Tryz.ntmps27 rfl ?_
 have h6:m=0∨m=1∨m=2∨m=3∨m=4∨m=5:=by omega
 rcases h6 with rfl|rfl|rfl|rfl|rfl|rfl
 ·have hf2:=Zbs (d:=((c - 1:Nat):Int)) (show (k:Int) * W+(0+y2)=n.z * W from hr2) hW.1 rfl
  have hf1:=Zbs (d:=((b - 1:Nat):Int)) (show (j:Int) * W+(0+y2+y1)=n.y * W from hr1) hW.1 rfl
  have hf0:=Zbs (d:=((a - 1:Nat):Int)) (show (i:Int) * W+(0+y2+y1+y0)=n.x * W from hr0) hW.1 rfl
  show Tri _ _ _ _ (env0 0 [.agg #[.int .i64 (i:Int),.int .i64 (j:Int),.int .i64 (k:Int),.int .i64 0,.int .i64 1,.int .i64 2,.int .i64 v0.x,.int .i64 v0.y,.int .i64 v0.z,.int .i64 v1.x,.int .i64 v1.y,.int .i64 v1.z,.int .i64 v2.x,.int .i64 v2.y,.int .i64 v2.z,.int .i64 v3.x,.int .i64 v3.y,.int .i64 v3.z],sv,.agg #[.int .i64 y0,.int .i64 y1,.int .i64 y2],.int .i64 W]) _ _
  clear hr0 hr1 hr2
  generalize fq n.x ((a - 1:Nat):Int)=q0 at *
  generalize fq n.y ((b - 1:Nat):Int)=q1 at *
  generalize fq n.z ((c - 1:Nat):Int)=q2 at *
  obtain ⟨q00,q01⟩:=q0
  obtain ⟨q10,q11⟩:=q1
  obtain ⟨q20,q21⟩:=q2
  repeat' first|refine Kz ?_|intro _
  rename_i bt bw
  refine Zhv rfl rfl (Zdb (cd:=cFq) (n:=3) rfl rfl (by omega) (by omega) (by omega) (by omega)) ?_
  rintro lv _ rfl
  rw [show List.replicate 3 (([],[]):List UInt8 × List UInt8)=[([],[]),([],[]),([],[])] from rfl]
  repeat' first|refine Kz ?_|intro _
  refine Zah 4 ?_
  repeat' first|refine Kz ?_|intro _
  refine Tri.mid (fun e' As'=>∃ bf,e'=[(1,sv),(3,.int .i64 W),(4,.pointer (some ⟨bt,0,none⟩)),(6,.pointer (some ⟨bw,0,none⟩)),(10,lv),(11,.int .i64 (0+y2)),(12,.int .i64 2),(13,.int .i64 2),(14,.pointer (some ⟨bf,0,none⟩)),(15,.int .i64 0)]∧As'=.cl bf [.string ⟨q20.toArray⟩,.string ⟨q21.toArray⟩] 47::.ow cFq 47 lv [([],[]),([],[]),([],[])]::.cl bw [.int .i64 y0,.int .i64 y1,.int .i64 y2] 39::.cl bt [.int .i64 (i:Int),.int .i64 (j:Int),.int .i64 (k:Int),.int .i64 0,.int .i64 1,.int .i64 2,.int .i64 v0.x,.int .i64 v0.y,.int .i64 v0.z,.int .i64 v1.x,.int .i64 v1.y,.int .i64 v1.z,.int .i64 v2.x,.int .i64 v2.y,.int .i64 v2.z,.int .i64 v3.x,.int .i64 v3.y,.int .i64 v3.z] 77::As) ?_ ?_
  ·refine Zaf (.cl bt [.int .i64 (i:Int),.int .i64 (j:Int),.int .i64 (k:Int),.int .i64 0,.int .i64 1,.int .i64 2,.int .i64 v0.x,.int .i64 v0.y,.int .i64 v0.z,.int .i64 v1.x,.int .i64 v1.y,.int .i64 v1.z,.int .i64 v2.x,.int .i64 v2.y,.int .i64 v2.z,.int .i64 v3.x,.int .i64 v3.y,.int .i64 v3.z] 77::As) [] (.take 0 (.take 1 (.take 2 (.take 3 (.take 4 (.take 5 (.take 6 (.take 7 (.take 8 (.take 9 (.take 10 (.take 11 (.take 12 (.take 13 (.take 14 (.all [(15,.take 16 (.take 17 (.take 18 (.all [(19,.all [(20,.take 21 (.done))])])))),(19,.all [(15,.take 16 (.take 17 (.take 18 (.all [(20,.take 21 (.done))]))))])])))))))))))))))) ?_
   repeat' first|refine Kf ?_|intro _|constructor
   all_goals refine T1.callv rfl rfl rfl rfl rfl (Zcf ht (n:=(k:Int) * W+(0+y2)) (d:=W * ((c - 1:Nat):Int)) (by omega) (by omega) hZc hf2) ?_
   all_goals rintro _ _ ⟨rfl,rfl⟩
   all_goals (repeat' first|refine Kf ?_|intro _|constructor)
   all_goals exact Post.cut _ _ ⟨_,rfl,rfl⟩ Zad Zaa
  rintro _ _ ⟨bf,rfl,rfl⟩
  repeat' first|refine Kz ?_|intro _
  refine TL.u rfl (Zat (c:=cFq) (y0:=([],[])) (y1:=(q20,q21)) (i:=2) (k:=0) (vs:=[.string ⟨q20.toArray⟩,.string ⟨q21.toArray⟩]) rfl rfl rfl rfl rfl rfl rfl rfl rfl) ?_
  rw [show ([([],[]),([],[]),([],[])]:List (List UInt8 × List UInt8)).set 2 (q20,q21)=[([],[]),([],[]),(q20,q21)] from rfl]
  repeat' first|refine Kz ?_|intro _
  refine Tri.mid (fun e' As'=>∃ bf,e'=[(1,sv),(3,.int .i64 W),(4,.pointer (some ⟨bt,0,none⟩)),(6,.pointer (some ⟨bw,0,none⟩)),(10,lv),(11,.int .i64 (0+y2+y1)),(12,.int .i64 1),(13,.int .i64 1),(14,.pointer (some ⟨bf,0,none⟩)),(15,.int .i64 0)]∧As'=.cl bf [.string ⟨q10.toArray⟩,.string ⟨q11.toArray⟩] 47::.ow cFq 47 lv [([],[]),([],[]),(q20,q21)]::.cl bw [.int .i64 y0,.int .i64 y1,.int .i64 y2] 39::.cl bt [.int .i64 (i:Int),.int .i64 (j:Int),.int .i64 (k:Int),.int .i64 0,.int .i64 1,.int .i64 2,.int .i64 v0.x,.int .i64 v0.y,.int .i64 v0.z,.int .i64 v1.x,.int .i64 v1.y,.int .i64 v1.z,.int .i64 v2.x,.int .i64 v2.y,.int .i64 v2.z,.int .i64 v3.x,.int .i64 v3.y,.int .i64 v3.z] 77::As) ?_ ?_
  ·refine Zaf (.cl bt [.int .i64 (i:Int),.int .i64 (j:Int),.int .i64 (k:Int),.int .i64 0,.int .i64 1,.int .i64 2,.int .i64 v0.x,.int .i64 v0.y,.int .i64 v0.z,.int .i64 v1.x,.int .i64 v1.y,.int .i64 v1.z,.int .i64 v2.x,.int .i64 v2.y,.int .i64 v2.z,.int .i64 v3.x,.int .i64 v3.y,.int .i64 v3.z] 77::As) [] (.take 0 (.take 1 (.take 2 (.take 3 (.take 4 (.take 5 (.take 6 (.take 7 (.take 8 (.take 9 (.take 10 (.take 11 (.take 12 (.take 13 (.take 14 (.all [(15,.take 16 (.take 17 (.take 18 (.all [(19,.all [(20,.take 21 (.done))])])))),(19,.all [(15,.take 16 (.take 17 (.take 18 (.all [(20,.take 21 (.done))]))))])])))))))))))))))) ?_
   repeat' first|refine Kf ?_|intro _|constructor
   all_goals refine T1.callv rfl rfl rfl rfl rfl (Zcf ht (n:=(j:Int) * W+(0+y2+y1)) (d:=W * ((b - 1:Nat):Int)) (by omega) (by omega) hZb hf1) ?_
   all_goals rintro _ _ ⟨rfl,rfl⟩
   all_goals (repeat' first|refine Kf ?_|intro _|constructor)
   all_goals exact Post.cut _ _ ⟨_,rfl,rfl⟩ Zad Zaa
  rintro _ _ ⟨bf,rfl,rfl⟩
  repeat' first|refine Kz ?_|intro _
  refine TL.u rfl (Zat (c:=cFq) (y0:=([],[])) (y1:=(q10,q11)) (i:=1) (k:=0) (vs:=[.string ⟨q10.toArray⟩,.string ⟨q11.toArray⟩]) rfl rfl rfl rfl rfl rfl rfl rfl rfl) ?_
  rw [show ([([],[]),([],[]),(q20,q21)]:List (List UInt8 × List UInt8)).set 1 (q10,q11)=[([],[]),(q10,q11),(q20,q21)] from rfl]
  repeat' first|refine Kz ?_|intro _
  refine Tri.mid (fun e' As'=>∃ bf,e'=[(1,sv),(3,.int .i64 W),(4,.pointer (some ⟨bt,0,none⟩)),(6,.pointer (some ⟨bw,0,none⟩)),(10,lv),(11,.int .i64 (0+y2+y1+y0)),(12,.int .i64 0),(13,.int .i64 0),(14,.pointer (some ⟨bf,0,none⟩)),(15,.int .i64 0)]∧As'=.cl bf [.string ⟨q00.toArray⟩,.string ⟨q01.toArray⟩] 47::.ow cFq 47 lv [([],[]),(q10,q11),(q20,q21)]::.cl bw [.int .i64 y0,.int .i64 y1,.int .i64 y2] 39::.cl bt [.int .i64 (i:Int),.int .i64 (j:Int),.int .i64 (k:Int),.int .i64 0,.int .i64 1,.int .i64 2,.int .i64 v0.x,.int .i64 v0.y,.int .i64 v0.z,.int .i64 v1.x,.int .i64 v1.y,.int .i64 v1.z,.int .i64 v2.x,.int .i64 v2.y,.int .i64 v2.z,.int .i64 v3.x,.int .i64 v3.y,.int .i64 v3.z] 77::As) ?_ ?_
  ·refine Zaf (.cl bt [.int .i64 (i:Int),.int .i64 (j:Int),.int .i64 (k:Int),.int .i64 0,.int .i64 1,.int .i64 2,.int .i64 v0.x,.int .i64 v0.y,.int .i64 v0.z,.int .i64 v1.x,.int .i64 v1.y,.int .i64 v1.z,.int .i64 v2.x,.int .i64 v2.y,.int .i64 v2.z,.int .i64 v3.x,.int .i64 v3.y,.int .i64 v3.z] 77::As) [] (.take 0 (.take 1 (.take 2 (.take 3 (.take 4 (.take 5 (.take 6 (.take 7 (.take 8 (.take 9 (.take 10 (.take 11 (.take 12 (.take 13 (.take 14 (.all [(15,.take 16 (.take 17 (.take 18 (.all [(19,.all [(20,.take 21 (.done))])])))),(19,.all [(15,.take 16 (.take 17 (.take 18 (.all [(20,.take 21 (.done))]))))])])))))))))))))))) ?_
   repeat' first|refine Kf ?_|intro _|constructor
   all_goals refine T1.callv rfl rfl rfl rfl rfl (Zcf ht (n:=(i:Int) * W+(0+y2+y1+y0)) (d:=W * ((a - 1:Nat):Int)) (by omega) (by omega) hZa hf0) ?_
   all_goals rintro _ _ ⟨rfl,rfl⟩
   all_goals (repeat' first|refine Kf ?_|intro _|constructor)
   all_goals exact Post.cut _ _ ⟨_,rfl,rfl⟩ Zad Zaa
  rintro _ _ ⟨bf,rfl,rfl⟩
  repeat' first|refine Kz ?_|intro _
  refine TL.u rfl (Zat (c:=cFq) (y0:=([],[])) (y1:=(q00,q01)) (i:=0) (k:=0) (vs:=[.string ⟨q00.toArray⟩,.string ⟨q01.toArray⟩]) rfl rfl rfl rfl rfl rfl rfl rfl rfl) ?_
  rw [show ([([],[]),(q10,q11),(q20,q21)]:List (List UInt8 × List UInt8)).set 0 (q00,q01)=[(q00,q01),(q10,q11),(q20,q21)] from rfl]
  repeat' first|refine Kz ?_|intro _
  (refine Zac ?_)
  exact ⟨_,⟨_,rfl,rfl⟩,Zaa⟩
 ·have hf1:=Zbs (d:=((b - 1:Nat):Int)) (show (j:Int) * W+(0+y2)=n.y * W from hr2) hW.1 rfl
  have hf2:=Zbs (d:=((c - 1:Nat):Int)) (show (k:Int) * W+(0+y2+y1)=n.z * W from hr1) hW.1 rfl
  have hf0:=Zbs (d:=((a - 1:Nat):Int)) (show (i:Int) * W+(0+y2+y1+y0)=n.x * W from hr0) hW.1 rfl
  show Tri _ _ _ _ (env0 0 [.agg #[.int .i64 (i:Int),.int .i64 (j:Int),.int .i64 (k:Int),.int .i64 0,.int .i64 2,.int .i64 1,.int .i64 v0.x,.int .i64 v0.y,.int .i64 v0.z,.int .i64 v1.x,.int .i64 v1.y,.int .i64 v1.z,.int .i64 v2.x,.int .i64 v2.y,.int .i64 v2.z,.int .i64 v3.x,.int .i64 v3.y,.int .i64 v3.z],sv,.agg #[.int .i64 y0,.int .i64 y1,.int .i64 y2],.int .i64 W]) _ _
  clear hr0 hr1 hr2
  generalize fq n.x ((a - 1:Nat):Int)=q0 at *
  generalize fq n.y ((b - 1:Nat):Int)=q1 at *
  generalize fq n.z ((c - 1:Nat):Int)=q2 at *
  obtain ⟨q00,q01⟩:=q0
  obtain ⟨q10,q11⟩:=q1
  obtain ⟨q20,q21⟩:=q2
  repeat' first|refine Kz ?_|intro _
  rename_i bt bw
  refine Zhv rfl rfl (Zdb (cd:=cFq) (n:=3) rfl rfl (by omega) (by omega) (by omega) (by omega)) ?_
  rintro lv _ rfl
  rw [show List.replicate 3 (([],[]):List UInt8 × List UInt8)=[([],[]),([],[]),([],[])] from rfl]
  repeat' first|refine Kz ?_|intro _
  refine Zah 4 ?_
  repeat' first|refine Kz ?_|intro _
  refine Tri.mid (fun e' As'=>∃ bf,e'=[(1,sv),(3,.int .i64 W),(4,.pointer (some ⟨bt,0,none⟩)),(6,.pointer (some ⟨bw,0,none⟩)),(10,lv),(11,.int .i64 (0+y2)),(12,.int .i64 2),(13,.int .i64 1),(14,.pointer (some ⟨bf,0,none⟩)),(15,.int .i64 0)]∧As'=.cl bf [.string ⟨q10.toArray⟩,.string ⟨q11.toArray⟩] 47::.ow cFq 47 lv [([],[]),([],[]),([],[])]::.cl bw [.int .i64 y0,.int .i64 y1,.int .i64 y2] 39::.cl bt [.int .i64 (i:Int),.int .i64 (j:Int),.int .i64 (k:Int),.int .i64 0,.int .i64 2,.int .i64 1,.int .i64 v0.x,.int .i64 v0.y,.int .i64 v0.z,.int .i64 v1.x,.int .i64 v1.y,.int .i64 v1.z,.int .i64 v2.x,.int .i64 v2.y,.int .i64 v2.z,.int .i64 v3.x,.int .i64 v3.y,.int .i64 v3.z] 77::As) ?_ ?_
  ·refine Zaf (.cl bt [.int .i64 (i:Int),.int .i64 (j:Int),.int .i64 (k:Int),.int .i64 0,.int .i64 2,.int .i64 1,.int .i64 v0.x,.int .i64 v0.y,.int .i64 v0.z,.int .i64 v1.x,.int .i64 v1.y,.int .i64 v1.z,.int .i64 v2.x,.int .i64 v2.y,.int .i64 v2.z,.int .i64 v3.x,.int .i64 v3.y,.int .i64 v3.z] 77::As) [] (.take 0 (.take 1 (.take 2 (.take 3 (.take 4 (.take 5 (.take 6 (.take 7 (.take 8 (.take 9 (.take 10 (.take 11 (.take 12 (.take 13 (.take 14 (.all [(15,.take 16 (.take 17 (.take 18 (.all [(19,.all [(20,.take 21 (.done))])])))),(19,.all [(15,.take 16 (.take 17 (.take 18 (.all [(20,.take 21 (.done))]))))])])))))))))))))))) ?_
   repeat' first|refine Kf ?_|intro _|constructor
   all_goals refine T1.callv rfl rfl rfl rfl rfl (Zcf ht (n:=(j:Int) * W+(0+y2)) (d:=W * ((b - 1:Nat):Int)) (by omega) (by omega) hZb hf1) ?_
   all_goals rintro _ _ ⟨rfl,rfl⟩
   all_goals (repeat' first|refine Kf ?_|intro _|constructor)
   all_goals exact Post.cut _ _ ⟨_,rfl,rfl⟩ Zad Zaa
  rintro _ _ ⟨bf,rfl,rfl⟩
  repeat' first|refine Kz ?_|intro _
  refine TL.u rfl (Zat (c:=cFq) (y0:=([],[])) (y1:=(q10,q11)) (i:=1) (k:=0) (vs:=[.string ⟨q10.toArray⟩,.string ⟨q11.toArray⟩]) rfl rfl rfl rfl rfl rfl rfl rfl rfl) ?_
  rw [show ([([],[]),([],[]),([],[])]:List (List UInt8 × List UInt8)).set 1 (q10,q11)=[([],[]),(q10,q11),([],[])] from rfl]
  repeat' first|refine Kz ?_|intro _
  refine Tri.mid (fun e' As'=>∃ bf,e'=[(1,sv),(3,.int .i64 W),(4,.pointer (some ⟨bt,0,none⟩)),(6,.pointer (some ⟨bw,0,none⟩)),(10,lv),(11,.int .i64 (0+y2+y1)),(12,.int .i64 1),(13,.int .i64 2),(14,.pointer (some ⟨bf,0,none⟩)),(15,.int .i64 0)]∧As'=.cl bf [.string ⟨q20.toArray⟩,.string ⟨q21.toArray⟩] 47::.ow cFq 47 lv [([],[]),(q10,q11),([],[])]::.cl bw [.int .i64 y0,.int .i64 y1,.int .i64 y2] 39::.cl bt [.int .i64 (i:Int),.int .i64 (j:Int),.int .i64 (k:Int),.int .i64 0,.int .i64 2,.int .i64 1,.int .i64 v0.x,.int .i64 v0.y,.int .i64 v0.z,.int .i64 v1.x,.int .i64 v1.y,.int .i64 v1.z,.int .i64 v2.x,.int .i64 v2.y,.int .i64 v2.z,.int .i64 v3.x,.int .i64 v3.y,.int .i64 v3.z] 77::As) ?_ ?_
  ·refine Zaf (.cl bt [.int .i64 (i:Int),.int .i64 (j:Int),.int .i64 (k:Int),.int .i64 0,.int .i64 2,.int .i64 1,.int .i64 v0.x,.int .i64 v0.y,.int .i64 v0.z,.int .i64 v1.x,.int .i64 v1.y,.int .i64 v1.z,.int .i64 v2.x,.int .i64 v2.y,.int .i64 v2.z,.int .i64 v3.x,.int .i64 v3.y,.int .i64 v3.z] 77::As) [] (.take 0 (.take 1 (.take 2 (.take 3 (.take 4 (.take 5 (.take 6 (.take 7 (.take 8 (.take 9 (.take 10 (.take 11 (.take 12 (.take 13 (.take 14 (.all [(15,.take 16 (.take 17 (.take 18 (.all [(19,.all [(20,.take 21 (.done))])])))),(19,.all [(15,.take 16 (.take 17 (.take 18 (.all [(20,.take 21 (.done))]))))])])))))))))))))))) ?_
   repeat' first|refine Kf ?_|intro _|constructor
   all_goals refine T1.callv rfl rfl rfl rfl rfl (Zcf ht (n:=(k:Int) * W+(0+y2+y1)) (d:=W * ((c - 1:Nat):Int)) (by omega) (by omega) hZc hf2) ?_
   all_goals rintro _ _ ⟨rfl,rfl⟩
   all_goals (repeat' first|refine Kf ?_|intro _|constructor)
   all_goals exact Post.cut _ _ ⟨_,rfl,rfl⟩ Zad Zaa
  rintro _ _ ⟨bf,rfl,rfl⟩
  repeat' first|refine Kz ?_|intro _
  refine TL.u rfl (Zat (c:=cFq) (y0:=([],[])) (y1:=(q20,q21)) (i:=2) (k:=0) (vs:=[.string ⟨q20.toArray⟩,.string ⟨q21.toArray⟩]) rfl rfl rfl rfl rfl rfl rfl rfl rfl) ?_
  rw [show ([([],[]),(q10,q11),([],[])]:List (List UInt8 × List UInt8)).set 2 (q20,q21)=[([],[]),(q10,q11),(q20,q21)] from rfl]
  repeat' first|refine Kz ?_|intro _
  refine Tri.mid (fun e' As'=>∃ bf,e'=[(1,sv),(3,.int .i64 W),(4,.pointer (some ⟨bt,0,none⟩)),(6,.pointer (some ⟨bw,0,none⟩)),(10,lv),(11,.int .i64 (0+y2+y1+y0)),(12,.int .i64 0),(13,.int .i64 0),(14,.pointer (some ⟨bf,0,none⟩)),(15,.int .i64 0)]∧As'=.cl bf [.string ⟨q00.toArray⟩,.string ⟨q01.toArray⟩] 47::.ow cFq 47 lv [([],[]),(q10,q11),(q20,q21)]::.cl bw [.int .i64 y0,.int .i64 y1,.int .i64 y2] 39::.cl bt [.int .i64 (i:Int),.int .i64 (j:Int),.int .i64 (k:Int),.int .i64 0,.int .i64 2,.int .i64 1,.int .i64 v0.x,.int .i64 v0.y,.int .i64 v0.z,.int .i64 v1.x,.int .i64 v1.y,.int .i64 v1.z,.int .i64 v2.x,.int .i64 v2.y,.int .i64 v2.z,.int .i64 v3.x,.int .i64 v3.y,.int .i64 v3.z] 77::As) ?_ ?_
  ·refine Zaf (.cl bt [.int .i64 (i:Int),.int .i64 (j:Int),.int .i64 (k:Int),.int .i64 0,.int .i64 2,.int .i64 1,.int .i64 v0.x,.int .i64 v0.y,.int .i64 v0.z,.int .i64 v1.x,.int .i64 v1.y,.int .i64 v1.z,.int .i64 v2.x,.int .i64 v2.y,.int .i64 v2.z,.int .i64 v3.x,.int .i64 v3.y,.int .i64 v3.z] 77::As) [] (.take 0 (.take 1 (.take 2 (.take 3 (.take 4 (.take 5 (.take 6 (.take 7 (.take 8 (.take 9 (.take 10 (.take 11 (.take 12 (.take 13 (.take 14 (.all [(15,.take 16 (.take 17 (.take 18 (.all [(19,.all [(20,.take 21 (.done))])])))),(19,.all [(15,.take 16 (.take 17 (.take 18 (.all [(20,.take 21 (.done))]))))])])))))))))))))))) ?_
   repeat' first|refine Kf ?_|intro _|constructor
   all_goals refine T1.callv rfl rfl rfl rfl rfl (Zcf ht (n:=(i:Int) * W+(0+y2+y1+y0)) (d:=W * ((a - 1:Nat):Int)) (by omega) (by omega) hZa hf0) ?_
   all_goals rintro _ _ ⟨rfl,rfl⟩
   all_goals (repeat' first|refine Kf ?_|intro _|constructor)
   all_goals exact Post.cut _ _ ⟨_,rfl,rfl⟩ Zad Zaa
  rintro _ _ ⟨bf,rfl,rfl⟩
  repeat' first|refine Kz ?_|intro _
  refine TL.u rfl (Zat (c:=cFq) (y0:=([],[])) (y1:=(q00,q01)) (i:=0) (k:=0) (vs:=[.string ⟨q00.toArray⟩,.string ⟨q01.toArray⟩]) rfl rfl rfl rfl rfl rfl rfl rfl rfl) ?_
  rw [show ([([],[]),(q10,q11),(q20,q21)]:List (List UInt8 × List UInt8)).set 0 (q00,q01)=[(q00,q01),(q10,q11),(q20,q21)] from rfl]
  repeat' first|refine Kz ?_|intro _
  (refine Zac ?_)
  exact ⟨_,⟨_,rfl,rfl⟩,Zaa⟩
 ·have hf2:=Zbs (d:=((c - 1:Nat):Int)) (show (k:Int) * W+(0+y2)=n.z * W from hr2) hW.1 rfl
  have hf0:=Zbs (d:=((a - 1:Nat):Int)) (show (i:Int) * W+(0+y2+y1)=n.x * W from hr1) hW.1 rfl
  have hf1:=Zbs (d:=((b - 1:Nat):Int)) (show (j:Int) * W+(0+y2+y1+y0)=n.y * W from hr0) hW.1 rfl
  show Tri _ _ _ _ (env0 0 [.agg #[.int .i64 (i:Int),.int .i64 (j:Int),.int .i64 (k:Int),.int .i64 1,.int .i64 0,.int .i64 2,.int .i64 v0.x,.int .i64 v0.y,.int .i64 v0.z,.int .i64 v1.x,.int .i64 v1.y,.int .i64 v1.z,.int .i64 v2.x,.int .i64 v2.y,.int .i64 v2.z,.int .i64 v3.x,.int .i64 v3.y,.int .i64 v3.z],sv,.agg #[.int .i64 y0,.int .i64 y1,.int .i64 y2],.int .i64 W]) _ _
  clear hr0 hr1 hr2
  generalize fq n.x ((a - 1:Nat):Int)=q0 at *
  generalize fq n.y ((b - 1:Nat):Int)=q1 at *
  generalize fq n.z ((c - 1:Nat):Int)=q2 at *
  obtain ⟨q00,q01⟩:=q0
  obtain ⟨q10,q11⟩:=q1
  obtain ⟨q20,q21⟩:=q2
  repeat' first|refine Kz ?_|intro _
  rename_i bt bw
  refine Zhv rfl rfl (Zdb (cd:=cFq) (n:=3) rfl rfl (by omega) (by omega) (by omega) (by omega)) ?_
  rintro lv _ rfl
  rw [show List.replicate 3 (([],[]):List UInt8 × List UInt8)=[([],[]),([],[]),([],[])] from rfl]
  repeat' first|refine Kz ?_|intro _
  refine Zah 4 ?_
  repeat' first|refine Kz ?_|intro _
  refine Tri.mid (fun e' As'=>∃ bf,e'=[(1,sv),(3,.int .i64 W),(4,.pointer (some ⟨bt,0,none⟩)),(6,.pointer (some ⟨bw,0,none⟩)),(10,lv),(11,.int .i64 (0+y2)),(12,.int .i64 2),(13,.int .i64 2),(14,.pointer (some ⟨bf,0,none⟩)),(15,.int .i64 0)]∧As'=.cl bf [.string ⟨q20.toArray⟩,.string ⟨q21.toArray⟩] 47::.ow cFq 47 lv [([],[]),([],[]),([],[])]::.cl bw [.int .i64 y0,.int .i64 y1,.int .i64 y2] 39::.cl bt [.int .i64 (i:Int),.int .i64 (j:Int),.int .i64 (k:Int),.int .i64 1,.int .i64 0,.int .i64 2,.int .i64 v0.x,.int .i64 v0.y,.int .i64 v0.z,.int .i64 v1.x,.int .i64 v1.y,.int .i64 v1.z,.int .i64 v2.x,.int .i64 v2.y,.int .i64 v2.z,.int .i64 v3.x,.int .i64 v3.y,.int .i64 v3.z] 77::As) ?_ ?_
  ·refine Zaf (.cl bt [.int .i64 (i:Int),.int .i64 (j:Int),.int .i64 (k:Int),.int .i64 1,.int .i64 0,.int .i64 2,.int .i64 v0.x,.int .i64 v0.y,.int .i64 v0.z,.int .i64 v1.x,.int .i64 v1.y,.int .i64 v1.z,.int .i64 v2.x,.int .i64 v2.y,.int .i64 v2.z,.int .i64 v3.x,.int .i64 v3.y,.int .i64 v3.z] 77::As) [] (.take 0 (.take 1 (.take 2 (.take 3 (.take 4 (.take 5 (.take 6 (.take 7 (.take 8 (.take 9 (.take 10 (.take 11 (.take 12 (.take 13 (.take 14 (.all [(15,.take 16 (.take 17 (.take 18 (.all [(19,.all [(20,.take 21 (.done))])])))),(19,.all [(15,.take 16 (.take 17 (.take 18 (.all [(20,.take 21 (.done))]))))])])))))))))))))))) ?_
   repeat' first|refine Kf ?_|intro _|constructor
   all_goals refine T1.callv rfl rfl rfl rfl rfl (Zcf ht (n:=(k:Int) * W+(0+y2)) (d:=W * ((c - 1:Nat):Int)) (by omega) (by omega) hZc hf2) ?_
   all_goals rintro _ _ ⟨rfl,rfl⟩
   all_goals (repeat' first|refine Kf ?_|intro _|constructor)
   all_goals exact Post.cut _ _ ⟨_,rfl,rfl⟩ Zad Zaa
  rintro _ _ ⟨bf,rfl,rfl⟩
  repeat' first|refine Kz ?_|intro _
  refine TL.u rfl (Zat (c:=cFq) (y0:=([],[])) (y1:=(q20,q21)) (i:=2) (k:=0) (vs:=[.string ⟨q20.toArray⟩,.string ⟨q21.toArray⟩]) rfl rfl rfl rfl rfl rfl rfl rfl rfl) ?_
  rw [show ([([],[]),([],[]),([],[])]:List (List UInt8 × List UInt8)).set 2 (q20,q21)=[([],[]),([],[]),(q20,q21)] from rfl]
  repeat' first|refine Kz ?_|intro _
  refine Tri.mid (fun e' As'=>∃ bf,e'=[(1,sv),(3,.int .i64 W),(4,.pointer (some ⟨bt,0,none⟩)),(6,.pointer (some ⟨bw,0,none⟩)),(10,lv),(11,.int .i64 (0+y2+y1)),(12,.int .i64 1),(13,.int .i64 0),(14,.pointer (some ⟨bf,0,none⟩)),(15,.int .i64 0)]∧As'=.cl bf [.string ⟨q00.toArray⟩,.string ⟨q01.toArray⟩] 47::.ow cFq 47 lv [([],[]),([],[]),(q20,q21)]::.cl bw [.int .i64 y0,.int .i64 y1,.int .i64 y2] 39::.cl bt [.int .i64 (i:Int),.int .i64 (j:Int),.int .i64 (k:Int),.int .i64 1,.int .i64 0,.int .i64 2,.int .i64 v0.x,.int .i64 v0.y,.int .i64 v0.z,.int .i64 v1.x,.int .i64 v1.y,.int .i64 v1.z,.int .i64 v2.x,.int .i64 v2.y,.int .i64 v2.z,.int .i64 v3.x,.int .i64 v3.y,.int .i64 v3.z] 77::As) ?_ ?_
  ·refine Zaf (.cl bt [.int .i64 (i:Int),.int .i64 (j:Int),.int .i64 (k:Int),.int .i64 1,.int .i64 0,.int .i64 2,.int .i64 v0.x,.int .i64 v0.y,.int .i64 v0.z,.int .i64 v1.x,.int .i64 v1.y,.int .i64 v1.z,.int .i64 v2.x,.int .i64 v2.y,.int .i64 v2.z,.int .i64 v3.x,.int .i64 v3.y,.int .i64 v3.z] 77::As) [] (.take 0 (.take 1 (.take 2 (.take 3 (.take 4 (.take 5 (.take 6 (.take 7 (.take 8 (.take 9 (.take 10 (.take 11 (.take 12 (.take 13 (.take 14 (.all [(15,.take 16 (.take 17 (.take 18 (.all [(19,.all [(20,.take 21 (.done))])])))),(19,.all [(15,.take 16 (.take 17 (.take 18 (.all [(20,.take 21 (.done))]))))])])))))))))))))))) ?_
   repeat' first|refine Kf ?_|intro _|constructor
   all_goals refine T1.callv rfl rfl rfl rfl rfl (Zcf ht (n:=(i:Int) * W+(0+y2+y1)) (d:=W * ((a - 1:Nat):Int)) (by omega) (by omega) hZa hf0) ?_
   all_goals rintro _ _ ⟨rfl,rfl⟩
   all_goals (repeat' first|refine Kf ?_|intro _|constructor)
   all_goals exact Post.cut _ _ ⟨_,rfl,rfl⟩ Zad Zaa
  rintro _ _ ⟨bf,rfl,rfl⟩
  repeat' first|refine Kz ?_|intro _
  refine TL.u rfl (Zat (c:=cFq) (y0:=([],[])) (y1:=(q00,q01)) (i:=0) (k:=0) (vs:=[.string ⟨q00.toArray⟩,.string ⟨q01.toArray⟩]) rfl rfl rfl rfl rfl rfl rfl rfl rfl) ?_
  rw [show ([([],[]),([],[]),(q20,q21)]:List (List UInt8 × List UInt8)).set 0 (q00,q01)=[(q00,q01),([],[]),(q20,q21)] from rfl]
  repeat' first|refine Kz ?_|intro _
  refine Tri.mid (fun e' As'=>∃ bf,e'=[(1,sv),(3,.int .i64 W),(4,.pointer (some ⟨bt,0,none⟩)),(6,.pointer (some ⟨bw,0,none⟩)),(10,lv),(11,.int .i64 (0+y2+y1+y0)),(12,.int .i64 0),(13,.int .i64 1),(14,.pointer (some ⟨bf,0,none⟩)),(15,.int .i64 0)]∧As'=.cl bf [.string ⟨q10.toArray⟩,.string ⟨q11.toArray⟩] 47::.ow cFq 47 lv [(q00,q01),([],[]),(q20,q21)]::.cl bw [.int .i64 y0,.int .i64 y1,.int .i64 y2] 39::.cl bt [.int .i64 (i:Int),.int .i64 (j:Int),.int .i64 (k:Int),.int .i64 1,.int .i64 0,.int .i64 2,.int .i64 v0.x,.int .i64 v0.y,.int .i64 v0.z,.int .i64 v1.x,.int .i64 v1.y,.int .i64 v1.z,.int .i64 v2.x,.int .i64 v2.y,.int .i64 v2.z,.int .i64 v3.x,.int .i64 v3.y,.int .i64 v3.z] 77::As) ?_ ?_
  ·refine Zaf (.cl bt [.int .i64 (i:Int),.int .i64 (j:Int),.int .i64 (k:Int),.int .i64 1,.int .i64 0,.int .i64 2,.int .i64 v0.x,.int .i64 v0.y,.int .i64 v0.z,.int .i64 v1.x,.int .i64 v1.y,.int .i64 v1.z,.int .i64 v2.x,.int .i64 v2.y,.int .i64 v2.z,.int .i64 v3.x,.int .i64 v3.y,.int .i64 v3.z] 77::As) [] (.take 0 (.take 1 (.take 2 (.take 3 (.take 4 (.take 5 (.take 6 (.take 7 (.take 8 (.take 9 (.take 10 (.take 11 (.take 12 (.take 13 (.take 14 (.all [(15,.take 16 (.take 17 (.take 18 (.all [(19,.all [(20,.take 21 (.done))])])))),(19,.all [(15,.take 16 (.take 17 (.take 18 (.all [(20,.take 21 (.done))]))))])])))))))))))))))) ?_
   repeat' first|refine Kf ?_|intro _|constructor
   all_goals refine T1.callv rfl rfl rfl rfl rfl (Zcf ht (n:=(j:Int) * W+(0+y2+y1+y0)) (d:=W * ((b - 1:Nat):Int)) (by omega) (by omega) hZb hf1) ?_
   all_goals rintro _ _ ⟨rfl,rfl⟩
   all_goals (repeat' first|refine Kf ?_|intro _|constructor)
   all_goals exact Post.cut _ _ ⟨_,rfl,rfl⟩ Zad Zaa
  rintro _ _ ⟨bf,rfl,rfl⟩
  repeat' first|refine Kz ?_|intro _
  refine TL.u rfl (Zat (c:=cFq) (y0:=([],[])) (y1:=(q10,q11)) (i:=1) (k:=0) (vs:=[.string ⟨q10.toArray⟩,.string ⟨q11.toArray⟩]) rfl rfl rfl rfl rfl rfl rfl rfl rfl) ?_
  rw [show ([(q00,q01),([],[]),(q20,q21)]:List (List UInt8 × List UInt8)).set 1 (q10,q11)=[(q00,q01),(q10,q11),(q20,q21)] from rfl]
  repeat' first|refine Kz ?_|intro _
  (refine Zac ?_)
  exact ⟨_,⟨_,rfl,rfl⟩,Zaa⟩
 ·have hf0:=Zbs (d:=((a - 1:Nat):Int)) (show (i:Int) * W+(0+y2)=n.x * W from hr2) hW.1 rfl
  have hf2:=Zbs (d:=((c - 1:Nat):Int)) (show (k:Int) * W+(0+y2+y1)=n.z * W from hr1) hW.1 rfl
  have hf1:=Zbs (d:=((b - 1:Nat):Int)) (show (j:Int) * W+(0+y2+y1+y0)=n.y * W from hr0) hW.1 rfl
  show Tri _ _ _ _ (env0 0 [.agg #[.int .i64 (i:Int),.int .i64 (j:Int),.int .i64 (k:Int),.int .i64 1,.int .i64 2,.int .i64 0,.int .i64 v0.x,.int .i64 v0.y,.int .i64 v0.z,.int .i64 v1.x,.int .i64 v1.y,.int .i64 v1.z,.int .i64 v2.x,.int .i64 v2.y,.int .i64 v2.z,.int .i64 v3.x,.int .i64 v3.y,.int .i64 v3.z],sv,.agg #[.int .i64 y0,.int .i64 y1,.int .i64 y2],.int .i64 W]) _ _
  clear hr0 hr1 hr2
  generalize fq n.x ((a - 1:Nat):Int)=q0 at *
  generalize fq n.y ((b - 1:Nat):Int)=q1 at *
  generalize fq n.z ((c - 1:Nat):Int)=q2 at *
  obtain ⟨q00,q01⟩:=q0
  obtain ⟨q10,q11⟩:=q1
  obtain ⟨q20,q21⟩:=q2
  repeat' first|refine Kz ?_|intro _
  rename_i bt bw
  refine Zhv rfl rfl (Zdb (cd:=cFq) (n:=3) rfl rfl (by omega) (by omega) (by omega) (by omega)) ?_
  rintro lv _ rfl
  rw [show List.replicate 3 (([],[]):List UInt8 × List UInt8)=[([],[]),([],[]),([],[])] from rfl]
  repeat' first|refine Kz ?_|intro _
  refine Zah 4 ?_
  repeat' first|refine Kz ?_|intro _
  refine Tri.mid (fun e' As'=>∃ bf,e'=[(1,sv),(3,.int .i64 W),(4,.pointer (some ⟨bt,0,none⟩)),(6,.pointer (some ⟨bw,0,none⟩)),(10,lv),(11,.int .i64 (0+y2)),(12,.int .i64 2),(13,.int .i64 0),(14,.pointer (some ⟨bf,0,none⟩)),(15,.int .i64 0)]∧As'=.cl bf [.string ⟨q00.toArray⟩,.string ⟨q01.toArray⟩] 47::.ow cFq 47 lv [([],[]),([],[]),([],[])]::.cl bw [.int .i64 y0,.int .i64 y1,.int .i64 y2] 39::.cl bt [.int .i64 (i:Int),.int .i64 (j:Int),.int .i64 (k:Int),.int .i64 1,.int .i64 2,.int .i64 0,.int .i64 v0.x,.int .i64 v0.y,.int .i64 v0.z,.int .i64 v1.x,.int .i64 v1.y,.int .i64 v1.z,.int .i64 v2.x,.int .i64 v2.y,.int .i64 v2.z,.int .i64 v3.x,.int .i64 v3.y,.int .i64 v3.z] 77::As) ?_ ?_
  ·refine Zaf (.cl bt [.int .i64 (i:Int),.int .i64 (j:Int),.int .i64 (k:Int),.int .i64 1,.int .i64 2,.int .i64 0,.int .i64 v0.x,.int .i64 v0.y,.int .i64 v0.z,.int .i64 v1.x,.int .i64 v1.y,.int .i64 v1.z,.int .i64 v2.x,.int .i64 v2.y,.int .i64 v2.z,.int .i64 v3.x,.int .i64 v3.y,.int .i64 v3.z] 77::As) [] (.take 0 (.take 1 (.take 2 (.take 3 (.take 4 (.take 5 (.take 6 (.take 7 (.take 8 (.take 9 (.take 10 (.take 11 (.take 12 (.take 13 (.take 14 (.all [(15,.take 16 (.take 17 (.take 18 (.all [(19,.all [(20,.take 21 (.done))])])))),(19,.all [(15,.take 16 (.take 17 (.take 18 (.all [(20,.take 21 (.done))]))))])])))))))))))))))) ?_
   repeat' first|refine Kf ?_|intro _|constructor
   all_goals refine T1.callv rfl rfl rfl rfl rfl (Zcf ht (n:=(i:Int) * W+(0+y2)) (d:=W * ((a - 1:Nat):Int)) (by omega) (by omega) hZa hf0) ?_
   all_goals rintro _ _ ⟨rfl,rfl⟩
   all_goals (repeat' first|refine Kf ?_|intro _|constructor)
   all_goals exact Post.cut _ _ ⟨_,rfl,rfl⟩ Zad Zaa
  rintro _ _ ⟨bf,rfl,rfl⟩
  repeat' first|refine Kz ?_|intro _
  refine TL.u rfl (Zat (c:=cFq) (y0:=([],[])) (y1:=(q00,q01)) (i:=0) (k:=0) (vs:=[.string ⟨q00.toArray⟩,.string ⟨q01.toArray⟩]) rfl rfl rfl rfl rfl rfl rfl rfl rfl) ?_
  rw [show ([([],[]),([],[]),([],[])]:List (List UInt8 × List UInt8)).set 0 (q00,q01)=[(q00,q01),([],[]),([],[])] from rfl]
  repeat' first|refine Kz ?_|intro _
  refine Tri.mid (fun e' As'=>∃ bf,e'=[(1,sv),(3,.int .i64 W),(4,.pointer (some ⟨bt,0,none⟩)),(6,.pointer (some ⟨bw,0,none⟩)),(10,lv),(11,.int .i64 (0+y2+y1)),(12,.int .i64 1),(13,.int .i64 2),(14,.pointer (some ⟨bf,0,none⟩)),(15,.int .i64 0)]∧As'=.cl bf [.string ⟨q20.toArray⟩,.string ⟨q21.toArray⟩] 47::.ow cFq 47 lv [(q00,q01),([],[]),([],[])]::.cl bw [.int .i64 y0,.int .i64 y1,.int .i64 y2] 39::.cl bt [.int .i64 (i:Int),.int .i64 (j:Int),.int .i64 (k:Int),.int .i64 1,.int .i64 2,.int .i64 0,.int .i64 v0.x,.int .i64 v0.y,.int .i64 v0.z,.int .i64 v1.x,.int .i64 v1.y,.int .i64 v1.z,.int .i64 v2.x,.int .i64 v2.y,.int .i64 v2.z,.int .i64 v3.x,.int .i64 v3.y,.int .i64 v3.z] 77::As) ?_ ?_
  ·refine Zaf (.cl bt [.int .i64 (i:Int),.int .i64 (j:Int),.int .i64 (k:Int),.int .i64 1,.int .i64 2,.int .i64 0,.int .i64 v0.x,.int .i64 v0.y,.int .i64 v0.z,.int .i64 v1.x,.int .i64 v1.y,.int .i64 v1.z,.int .i64 v2.x,.int .i64 v2.y,.int .i64 v2.z,.int .i64 v3.x,.int .i64 v3.y,.int .i64 v3.z] 77::As) [] (.take 0 (.take 1 (.take 2 (.take 3 (.take 4 (.take 5 (.take 6 (.take 7 (.take 8 (.take 9 (.take 10 (.take 11 (.take 12 (.take 13 (.take 14 (.all [(15,.take 16 (.take 17 (.take 18 (.all [(19,.all [(20,.take 21 (.done))])])))),(19,.all [(15,.take 16 (.take 17 (.take 18 (.all [(20,.take 21 (.done))]))))])])))))))))))))))) ?_
   repeat' first|refine Kf ?_|intro _|constructor
   all_goals refine T1.callv rfl rfl rfl rfl rfl (Zcf ht (n:=(k:Int) * W+(0+y2+y1)) (d:=W * ((c - 1:Nat):Int)) (by omega) (by omega) hZc hf2) ?_
   all_goals rintro _ _ ⟨rfl,rfl⟩
   all_goals (repeat' first|refine Kf ?_|intro _|constructor)
   all_goals exact Post.cut _ _ ⟨_,rfl,rfl⟩ Zad Zaa
  rintro _ _ ⟨bf,rfl,rfl⟩
  repeat' first|refine Kz ?_|intro _
  refine TL.u rfl (Zat (c:=cFq) (y0:=([],[])) (y1:=(q20,q21)) (i:=2) (k:=0) (vs:=[.string ⟨q20.toArray⟩,.string ⟨q21.toArray⟩]) rfl rfl rfl rfl rfl rfl rfl rfl rfl) ?_
  rw [show ([(q00,q01),([],[]),([],[])]:List (List UInt8 × List UInt8)).set 2 (q20,q21)=[(q00,q01),([],[]),(q20,q21)] from rfl]
  repeat' first|refine Kz ?_|intro _
  refine Tri.mid (fun e' As'=>∃ bf,e'=[(1,sv),(3,.int .i64 W),(4,.pointer (some ⟨bt,0,none⟩)),(6,.pointer (some ⟨bw,0,none⟩)),(10,lv),(11,.int .i64 (0+y2+y1+y0)),(12,.int .i64 0),(13,.int .i64 1),(14,.pointer (some ⟨bf,0,none⟩)),(15,.int .i64 0)]∧As'=.cl bf [.string ⟨q10.toArray⟩,.string ⟨q11.toArray⟩] 47::.ow cFq 47 lv [(q00,q01),([],[]),(q20,q21)]::.cl bw [.int .i64 y0,.int .i64 y1,.int .i64 y2] 39::.cl bt [.int .i64 (i:Int),.int .i64 (j:Int),.int .i64 (k:Int),.int .i64 1,.int .i64 2,.int .i64 0,.int .i64 v0.x,.int .i64 v0.y,.int .i64 v0.z,.int .i64 v1.x,.int .i64 v1.y,.int .i64 v1.z,.int .i64 v2.x,.int .i64 v2.y,.int .i64 v2.z,.int .i64 v3.x,.int .i64 v3.y,.int .i64 v3.z] 77::As) ?_ ?_
  ·refine Zaf (.cl bt [.int .i64 (i:Int),.int .i64 (j:Int),.int .i64 (k:Int),.int .i64 1,.int .i64 2,.int .i64 0,.int .i64 v0.x,.int .i64 v0.y,.int .i64 v0.z,.int .i64 v1.x,.int .i64 v1.y,.int .i64 v1.z,.int .i64 v2.x,.int .i64 v2.y,.int .i64 v2.z,.int .i64 v3.x,.int .i64 v3.y,.int .i64 v3.z] 77::As) [] (.take 0 (.take 1 (.take 2 (.take 3 (.take 4 (.take 5 (.take 6 (.take 7 (.take 8 (.take 9 (.take 10 (.take 11 (.take 12 (.take 13 (.take 14 (.all [(15,.take 16 (.take 17 (.take 18 (.all [(19,.all [(20,.take 21 (.done))])])))),(19,.all [(15,.take 16 (.take 17 (.take 18 (.all [(20,.take 21 (.done))]))))])])))))))))))))))) ?_
   repeat' first|refine Kf ?_|intro _|constructor
   all_goals refine T1.callv rfl rfl rfl rfl rfl (Zcf ht (n:=(j:Int) * W+(0+y2+y1+y0)) (d:=W * ((b - 1:Nat):Int)) (by omega) (by omega) hZb hf1) ?_
   all_goals rintro _ _ ⟨rfl,rfl⟩
   all_goals (repeat' first|refine Kf ?_|intro _|constructor)
   all_goals exact Post.cut _ _ ⟨_,rfl,rfl⟩ Zad Zaa
  rintro _ _ ⟨bf,rfl,rfl⟩
  repeat' first|refine Kz ?_|intro _
  refine TL.u rfl (Zat (c:=cFq) (y0:=([],[])) (y1:=(q10,q11)) (i:=1) (k:=0) (vs:=[.string ⟨q10.toArray⟩,.string ⟨q11.toArray⟩]) rfl rfl rfl rfl rfl rfl rfl rfl rfl) ?_
  rw [show ([(q00,q01),([],[]),(q20,q21)]:List (List UInt8 × List UInt8)).set 1 (q10,q11)=[(q00,q01),(q10,q11),(q20,q21)] from rfl]
  repeat' first|refine Kz ?_|intro _
  (refine Zac ?_)
  exact ⟨_,⟨_,rfl,rfl⟩,Zaa⟩
 ·have hf1:=Zbs (d:=((b - 1:Nat):Int)) (show (j:Int) * W+(0+y2)=n.y * W from hr2) hW.1 rfl
  have hf0:=Zbs (d:=((a - 1:Nat):Int)) (show (i:Int) * W+(0+y2+y1)=n.x * W from hr1) hW.1 rfl
  have hf2:=Zbs (d:=((c - 1:Nat):Int)) (show (k:Int) * W+(0+y2+y1+y0)=n.z * W from hr0) hW.1 rfl
  show Tri _ _ _ _ (env0 0 [.agg #[.int .i64 (i:Int),.int .i64 (j:Int),.int .i64 (k:Int),.int .i64 2,.int .i64 0,.int .i64 1,.int .i64 v0.x,.int .i64 v0.y,.int .i64 v0.z,.int .i64 v1.x,.int .i64 v1.y,.int .i64 v1.z,.int .i64 v2.x,.int .i64 v2.y,.int .i64 v2.z,.int .i64 v3.x,.int .i64 v3.y,.int .i64 v3.z],sv,.agg #[.int .i64 y0,.int .i64 y1,.int .i64 y2],.int .i64 W]) _ _
  clear hr0 hr1 hr2
  generalize fq n.x ((a - 1:Nat):Int)=q0 at *
  generalize fq n.y ((b - 1:Nat):Int)=q1 at *
  generalize fq n.z ((c - 1:Nat):Int)=q2 at *
  obtain ⟨q00,q01⟩:=q0
  obtain ⟨q10,q11⟩:=q1
  obtain ⟨q20,q21⟩:=q2
  repeat' first|refine Kz ?_|intro _
  rename_i bt bw
  refine Zhv rfl rfl (Zdb (cd:=cFq) (n:=3) rfl rfl (by omega) (by omega) (by omega) (by omega)) ?_
  rintro lv _ rfl
  rw [show List.replicate 3 (([],[]):List UInt8 × List UInt8)=[([],[]),([],[]),([],[])] from rfl]
  repeat' first|refine Kz ?_|intro _
  refine Zah 4 ?_
  repeat' first|refine Kz ?_|intro _
  refine Tri.mid (fun e' As'=>∃ bf,e'=[(1,sv),(3,.int .i64 W),(4,.pointer (some ⟨bt,0,none⟩)),(6,.pointer (some ⟨bw,0,none⟩)),(10,lv),(11,.int .i64 (0+y2)),(12,.int .i64 2),(13,.int .i64 1),(14,.pointer (some ⟨bf,0,none⟩)),(15,.int .i64 0)]∧As'=.cl bf [.string ⟨q10.toArray⟩,.string ⟨q11.toArray⟩] 47::.ow cFq 47 lv [([],[]),([],[]),([],[])]::.cl bw [.int .i64 y0,.int .i64 y1,.int .i64 y2] 39::.cl bt [.int .i64 (i:Int),.int .i64 (j:Int),.int .i64 (k:Int),.int .i64 2,.int .i64 0,.int .i64 1,.int .i64 v0.x,.int .i64 v0.y,.int .i64 v0.z,.int .i64 v1.x,.int .i64 v1.y,.int .i64 v1.z,.int .i64 v2.x,.int .i64 v2.y,.int .i64 v2.z,.int .i64 v3.x,.int .i64 v3.y,.int .i64 v3.z] 77::As) ?_ ?_
  ·refine Zaf (.cl bt [.int .i64 (i:Int),.int .i64 (j:Int),.int .i64 (k:Int),.int .i64 2,.int .i64 0,.int .i64 1,.int .i64 v0.x,.int .i64 v0.y,.int .i64 v0.z,.int .i64 v1.x,.int .i64 v1.y,.int .i64 v1.z,.int .i64 v2.x,.int .i64 v2.y,.int .i64 v2.z,.int .i64 v3.x,.int .i64 v3.y,.int .i64 v3.z] 77::As) [] (.take 0 (.take 1 (.take 2 (.take 3 (.take 4 (.take 5 (.take 6 (.take 7 (.take 8 (.take 9 (.take 10 (.take 11 (.take 12 (.take 13 (.take 14 (.all [(15,.take 16 (.take 17 (.take 18 (.all [(19,.all [(20,.take 21 (.done))])])))),(19,.all [(15,.take 16 (.take 17 (.take 18 (.all [(20,.take 21 (.done))]))))])])))))))))))))))) ?_
   repeat' first|refine Kf ?_|intro _|constructor
   all_goals refine T1.callv rfl rfl rfl rfl rfl (Zcf ht (n:=(j:Int) * W+(0+y2)) (d:=W * ((b - 1:Nat):Int)) (by omega) (by omega) hZb hf1) ?_
   all_goals rintro _ _ ⟨rfl,rfl⟩
   all_goals (repeat' first|refine Kf ?_|intro _|constructor)
   all_goals exact Post.cut _ _ ⟨_,rfl,rfl⟩ Zad Zaa
  rintro _ _ ⟨bf,rfl,rfl⟩
  repeat' first|refine Kz ?_|intro _
  refine TL.u rfl (Zat (c:=cFq) (y0:=([],[])) (y1:=(q10,q11)) (i:=1) (k:=0) (vs:=[.string ⟨q10.toArray⟩,.string ⟨q11.toArray⟩]) rfl rfl rfl rfl rfl rfl rfl rfl rfl) ?_
  rw [show ([([],[]),([],[]),([],[])]:List (List UInt8 × List UInt8)).set 1 (q10,q11)=[([],[]),(q10,q11),([],[])] from rfl]
  repeat' first|refine Kz ?_|intro _
  refine Tri.mid (fun e' As'=>∃ bf,e'=[(1,sv),(3,.int .i64 W),(4,.pointer (some ⟨bt,0,none⟩)),(6,.pointer (some ⟨bw,0,none⟩)),(10,lv),(11,.int .i64 (0+y2+y1)),(12,.int .i64 1),(13,.int .i64 0),(14,.pointer (some ⟨bf,0,none⟩)),(15,.int .i64 0)]∧As'=.cl bf [.string ⟨q00.toArray⟩,.string ⟨q01.toArray⟩] 47::.ow cFq 47 lv [([],[]),(q10,q11),([],[])]::.cl bw [.int .i64 y0,.int .i64 y1,.int .i64 y2] 39::.cl bt [.int .i64 (i:Int),.int .i64 (j:Int),.int .i64 (k:Int),.int .i64 2,.int .i64 0,.int .i64 1,.int .i64 v0.x,.int .i64 v0.y,.int .i64 v0.z,.int .i64 v1.x,.int .i64 v1.y,.int .i64 v1.z,.int .i64 v2.x,.int .i64 v2.y,.int .i64 v2.z,.int .i64 v3.x,.int .i64 v3.y,.int .i64 v3.z] 77::As) ?_ ?_
  ·refine Zaf (.cl bt [.int .i64 (i:Int),.int .i64 (j:Int),.int .i64 (k:Int),.int .i64 2,.int .i64 0,.int .i64 1,.int .i64 v0.x,.int .i64 v0.y,.int .i64 v0.z,.int .i64 v1.x,.int .i64 v1.y,.int .i64 v1.z,.int .i64 v2.x,.int .i64 v2.y,.int .i64 v2.z,.int .i64 v3.x,.int .i64 v3.y,.int .i64 v3.z] 77::As) [] (.take 0 (.take 1 (.take 2 (.take 3 (.take 4 (.take 5 (.take 6 (.take 7 (.take 8 (.take 9 (.take 10 (.take 11 (.take 12 (.take 13 (.take 14 (.all [(15,.take 16 (.take 17 (.take 18 (.all [(19,.all [(20,.take 21 (.done))])])))),(19,.all [(15,.take 16 (.take 17 (.take 18 (.all [(20,.take 21 (.done))]))))])])))))))))))))))) ?_
   repeat' first|refine Kf ?_|intro _|constructor
   all_goals refine T1.callv rfl rfl rfl rfl rfl (Zcf ht (n:=(i:Int) * W+(0+y2+y1)) (d:=W * ((a - 1:Nat):Int)) (by omega) (by omega) hZa hf0) ?_
   all_goals rintro _ _ ⟨rfl,rfl⟩
   all_goals (repeat' first|refine Kf ?_|intro _|constructor)
   all_goals exact Post.cut _ _ ⟨_,rfl,rfl⟩ Zad Zaa
  rintro _ _ ⟨bf,rfl,rfl⟩
  repeat' first|refine Kz ?_|intro _
  refine TL.u rfl (Zat (c:=cFq) (y0:=([],[])) (y1:=(q00,q01)) (i:=0) (k:=0) (vs:=[.string ⟨q00.toArray⟩,.string ⟨q01.toArray⟩]) rfl rfl rfl rfl rfl rfl rfl rfl rfl) ?_
  rw [show ([([],[]),(q10,q11),([],[])]:List (List UInt8 × List UInt8)).set 0 (q00,q01)=[(q00,q01),(q10,q11),([],[])] from rfl]
  repeat' first|refine Kz ?_|intro _
  refine Tri.mid (fun e' As'=>∃ bf,e'=[(1,sv),(3,.int .i64 W),(4,.pointer (some ⟨bt,0,none⟩)),(6,.pointer (some ⟨bw,0,none⟩)),(10,lv),(11,.int .i64 (0+y2+y1+y0)),(12,.int .i64 0),(13,.int .i64 2),(14,.pointer (some ⟨bf,0,none⟩)),(15,.int .i64 0)]∧As'=.cl bf [.string ⟨q20.toArray⟩,.string ⟨q21.toArray⟩] 47::.ow cFq 47 lv [(q00,q01),(q10,q11),([],[])]::.cl bw [.int .i64 y0,.int .i64 y1,.int .i64 y2] 39::.cl bt [.int .i64 (i:Int),.int .i64 (j:Int),.int .i64 (k:Int),.int .i64 2,.int .i64 0,.int .i64 1,.int .i64 v0.x,.int .i64 v0.y,.int .i64 v0.z,.int .i64 v1.x,.int .i64 v1.y,.int .i64 v1.z,.int .i64 v2.x,.int .i64 v2.y,.int .i64 v2.z,.int .i64 v3.x,.int .i64 v3.y,.int .i64 v3.z] 77::As) ?_ ?_
  ·refine Zaf (.cl bt [.int .i64 (i:Int),.int .i64 (j:Int),.int .i64 (k:Int),.int .i64 2,.int .i64 0,.int .i64 1,.int .i64 v0.x,.int .i64 v0.y,.int .i64 v0.z,.int .i64 v1.x,.int .i64 v1.y,.int .i64 v1.z,.int .i64 v2.x,.int .i64 v2.y,.int .i64 v2.z,.int .i64 v3.x,.int .i64 v3.y,.int .i64 v3.z] 77::As) [] (.take 0 (.take 1 (.take 2 (.take 3 (.take 4 (.take 5 (.take 6 (.take 7 (.take 8 (.take 9 (.take 10 (.take 11 (.take 12 (.take 13 (.take 14 (.all [(15,.take 16 (.take 17 (.take 18 (.all [(19,.all [(20,.take 21 (.done))])])))),(19,.all [(15,.take 16 (.take 17 (.take 18 (.all [(20,.take 21 (.done))]))))])])))))))))))))))) ?_
   repeat' first|refine Kf ?_|intro _|constructor
   all_goals refine T1.callv rfl rfl rfl rfl rfl (Zcf ht (n:=(k:Int) * W+(0+y2+y1+y0)) (d:=W * ((c - 1:Nat):Int)) (by omega) (by omega) hZc hf2) ?_
   all_goals rintro _ _ ⟨rfl,rfl⟩
   all_goals (repeat' first|refine Kf ?_|intro _|constructor)
   all_goals exact Post.cut _ _ ⟨_,rfl,rfl⟩ Zad Zaa
  rintro _ _ ⟨bf,rfl,rfl⟩
  repeat' first|refine Kz ?_|intro _
  refine TL.u rfl (Zat (c:=cFq) (y0:=([],[])) (y1:=(q20,q21)) (i:=2) (k:=0) (vs:=[.string ⟨q20.toArray⟩,.string ⟨q21.toArray⟩]) rfl rfl rfl rfl rfl rfl rfl rfl rfl) ?_
  rw [show ([(q00,q01),(q10,q11),([],[])]:List (List UInt8 × List UInt8)).set 2 (q20,q21)=[(q00,q01),(q10,q11),(q20,q21)] from rfl]
  repeat' first|refine Kz ?_|intro _
  (refine Zac ?_)
  exact ⟨_,⟨_,rfl,rfl⟩,Zaa⟩
 ·have hf0:=Zbs (d:=((a - 1:Nat):Int)) (show (i:Int) * W+(0+y2)=n.x * W from hr2) hW.1 rfl
  have hf1:=Zbs (d:=((b - 1:Nat):Int)) (show (j:Int) * W+(0+y2+y1)=n.y * W from hr1) hW.1 rfl
  have hf2:=Zbs (d:=((c - 1:Nat):Int)) (show (k:Int) * W+(0+y2+y1+y0)=n.z * W from hr0) hW.1 rfl
  show Tri _ _ _ _ (env0 0 [.agg #[.int .i64 (i:Int),.int .i64 (j:Int),.int .i64 (k:Int),.int .i64 2,.int .i64 1,.int .i64 0,.int .i64 v0.x,.int .i64 v0.y,.int .i64 v0.z,.int .i64 v1.x,.int .i64 v1.y,.int .i64 v1.z,.int .i64 v2.x,.int .i64 v2.y,.int .i64 v2.z,.int .i64 v3.x,.int .i64 v3.y,.int .i64 v3.z],sv,.agg #[.int .i64 y0,.int .i64 y1,.int .i64 y2],.int .i64 W]) _ _
  clear hr0 hr1 hr2
  generalize fq n.x ((a - 1:Nat):Int)=q0 at *
  generalize fq n.y ((b - 1:Nat):Int)=q1 at *
  generalize fq n.z ((c - 1:Nat):Int)=q2 at *
  obtain ⟨q00,q01⟩:=q0
  obtain ⟨q10,q11⟩:=q1
  obtain ⟨q20,q21⟩:=q2
  repeat' first|refine Kz ?_|intro _
  rename_i bt bw
  refine Zhv rfl rfl (Zdb (cd:=cFq) (n:=3) rfl rfl (by omega) (by omega) (by omega) (by omega)) ?_
  rintro lv _ rfl
  rw [show List.replicate 3 (([],[]):List UInt8 × List UInt8)=[([],[]),([],[]),([],[])] from rfl]
  repeat' first|refine Kz ?_|intro _
  refine Zah 4 ?_
  repeat' first|refine Kz ?_|intro _
  refine Tri.mid (fun e' As'=>∃ bf,e'=[(1,sv),(3,.int .i64 W),(4,.pointer (some ⟨bt,0,none⟩)),(6,.pointer (some ⟨bw,0,none⟩)),(10,lv),(11,.int .i64 (0+y2)),(12,.int .i64 2),(13,.int .i64 0),(14,.pointer (some ⟨bf,0,none⟩)),(15,.int .i64 0)]∧As'=.cl bf [.string ⟨q00.toArray⟩,.string ⟨q01.toArray⟩] 47::.ow cFq 47 lv [([],[]),([],[]),([],[])]::.cl bw [.int .i64 y0,.int .i64 y1,.int .i64 y2] 39::.cl bt [.int .i64 (i:Int),.int .i64 (j:Int),.int .i64 (k:Int),.int .i64 2,.int .i64 1,.int .i64 0,.int .i64 v0.x,.int .i64 v0.y,.int .i64 v0.z,.int .i64 v1.x,.int .i64 v1.y,.int .i64 v1.z,.int .i64 v2.x,.int .i64 v2.y,.int .i64 v2.z,.int .i64 v3.x,.int .i64 v3.y,.int .i64 v3.z] 77::As) ?_ ?_
  ·refine Zaf (.cl bt [.int .i64 (i:Int),.int .i64 (j:Int),.int .i64 (k:Int),.int .i64 2,.int .i64 1,.int .i64 0,.int .i64 v0.x,.int .i64 v0.y,.int .i64 v0.z,.int .i64 v1.x,.int .i64 v1.y,.int .i64 v1.z,.int .i64 v2.x,.int .i64 v2.y,.int .i64 v2.z,.int .i64 v3.x,.int .i64 v3.y,.int .i64 v3.z] 77::As) [] (.take 0 (.take 1 (.take 2 (.take 3 (.take 4 (.take 5 (.take 6 (.take 7 (.take 8 (.take 9 (.take 10 (.take 11 (.take 12 (.take 13 (.take 14 (.all [(15,.take 16 (.take 17 (.take 18 (.all [(19,.all [(20,.take 21 (.done))])])))),(19,.all [(15,.take 16 (.take 17 (.take 18 (.all [(20,.take 21 (.done))]))))])])))))))))))))))) ?_
   repeat' first|refine Kf ?_|intro _|constructor
   all_goals refine T1.callv rfl rfl rfl rfl rfl (Zcf ht (n:=(i:Int) * W+(0+y2)) (d:=W * ((a - 1:Nat):Int)) (by omega) (by omega) hZa hf0) ?_
   all_goals rintro _ _ ⟨rfl,rfl⟩
   all_goals (repeat' first|refine Kf ?_|intro _|constructor)
   all_goals exact Post.cut _ _ ⟨_,rfl,rfl⟩ Zad Zaa
  rintro _ _ ⟨bf,rfl,rfl⟩
  repeat' first|refine Kz ?_|intro _
  refine TL.u rfl (Zat (c:=cFq) (y0:=([],[])) (y1:=(q00,q01)) (i:=0) (k:=0) (vs:=[.string ⟨q00.toArray⟩,.string ⟨q01.toArray⟩]) rfl rfl rfl rfl rfl rfl rfl rfl rfl) ?_
  rw [show ([([],[]),([],[]),([],[])]:List (List UInt8 × List UInt8)).set 0 (q00,q01)=[(q00,q01),([],[]),([],[])] from rfl]
  repeat' first|refine Kz ?_|intro _
  refine Tri.mid (fun e' As'=>∃ bf,e'=[(1,sv),(3,.int .i64 W),(4,.pointer (some ⟨bt,0,none⟩)),(6,.pointer (some ⟨bw,0,none⟩)),(10,lv),(11,.int .i64 (0+y2+y1)),(12,.int .i64 1),(13,.int .i64 1),(14,.pointer (some ⟨bf,0,none⟩)),(15,.int .i64 0)]∧As'=.cl bf [.string ⟨q10.toArray⟩,.string ⟨q11.toArray⟩] 47::.ow cFq 47 lv [(q00,q01),([],[]),([],[])]::.cl bw [.int .i64 y0,.int .i64 y1,.int .i64 y2] 39::.cl bt [.int .i64 (i:Int),.int .i64 (j:Int),.int .i64 (k:Int),.int .i64 2,.int .i64 1,.int .i64 0,.int .i64 v0.x,.int .i64 v0.y,.int .i64 v0.z,.int .i64 v1.x,.int .i64 v1.y,.int .i64 v1.z,.int .i64 v2.x,.int .i64 v2.y,.int .i64 v2.z,.int .i64 v3.x,.int .i64 v3.y,.int .i64 v3.z] 77::As) ?_ ?_
  ·refine Zaf (.cl bt [.int .i64 (i:Int),.int .i64 (j:Int),.int .i64 (k:Int),.int .i64 2,.int .i64 1,.int .i64 0,.int .i64 v0.x,.int .i64 v0.y,.int .i64 v0.z,.int .i64 v1.x,.int .i64 v1.y,.int .i64 v1.z,.int .i64 v2.x,.int .i64 v2.y,.int .i64 v2.z,.int .i64 v3.x,.int .i64 v3.y,.int .i64 v3.z] 77::As) [] (.take 0 (.take 1 (.take 2 (.take 3 (.take 4 (.take 5 (.take 6 (.take 7 (.take 8 (.take 9 (.take 10 (.take 11 (.take 12 (.take 13 (.take 14 (.all [(15,.take 16 (.take 17 (.take 18 (.all [(19,.all [(20,.take 21 (.done))])])))),(19,.all [(15,.take 16 (.take 17 (.take 18 (.all [(20,.take 21 (.done))]))))])])))))))))))))))) ?_
   repeat' first|refine Kf ?_|intro _|constructor
   all_goals refine T1.callv rfl rfl rfl rfl rfl (Zcf ht (n:=(j:Int) * W+(0+y2+y1)) (d:=W * ((b - 1:Nat):Int)) (by omega) (by omega) hZb hf1) ?_
   all_goals rintro _ _ ⟨rfl,rfl⟩
   all_goals (repeat' first|refine Kf ?_|intro _|constructor)
   all_goals exact Post.cut _ _ ⟨_,rfl,rfl⟩ Zad Zaa
  rintro _ _ ⟨bf,rfl,rfl⟩
  repeat' first|refine Kz ?_|intro _
  refine TL.u rfl (Zat (c:=cFq) (y0:=([],[])) (y1:=(q10,q11)) (i:=1) (k:=0) (vs:=[.string ⟨q10.toArray⟩,.string ⟨q11.toArray⟩]) rfl rfl rfl rfl rfl rfl rfl rfl rfl) ?_
  rw [show ([(q00,q01),([],[]),([],[])]:List (List UInt8 × List UInt8)).set 1 (q10,q11)=[(q00,q01),(q10,q11),([],[])] from rfl]
  repeat' first|refine Kz ?_|intro _
  refine Tri.mid (fun e' As'=>∃ bf,e'=[(1,sv),(3,.int .i64 W),(4,.pointer (some ⟨bt,0,none⟩)),(6,.pointer (some ⟨bw,0,none⟩)),(10,lv),(11,.int .i64 (0+y2+y1+y0)),(12,.int .i64 0),(13,.int .i64 2),(14,.pointer (some ⟨bf,0,none⟩)),(15,.int .i64 0)]∧As'=.cl bf [.string ⟨q20.toArray⟩,.string ⟨q21.toArray⟩] 47::.ow cFq 47 lv [(q00,q01),(q10,q11),([],[])]::.cl bw [.int .i64 y0,.int .i64 y1,.int .i64 y2] 39::.cl bt [.int .i64 (i:Int),.int .i64 (j:Int),.int .i64 (k:Int),.int .i64 2,.int .i64 1,.int .i64 0,.int .i64 v0.x,.int .i64 v0.y,.int .i64 v0.z,.int .i64 v1.x,.int .i64 v1.y,.int .i64 v1.z,.int .i64 v2.x,.int .i64 v2.y,.int .i64 v2.z,.int .i64 v3.x,.int .i64 v3.y,.int .i64 v3.z] 77::As) ?_ ?_
  ·refine Zaf (.cl bt [.int .i64 (i:Int),.int .i64 (j:Int),.int .i64 (k:Int),.int .i64 2,.int .i64 1,.int .i64 0,.int .i64 v0.x,.int .i64 v0.y,.int .i64 v0.z,.int .i64 v1.x,.int .i64 v1.y,.int .i64 v1.z,.int .i64 v2.x,.int .i64 v2.y,.int .i64 v2.z,.int .i64 v3.x,.int .i64 v3.y,.int .i64 v3.z] 77::As) [] (.take 0 (.take 1 (.take 2 (.take 3 (.take 4 (.take 5 (.take 6 (.take 7 (.take 8 (.take 9 (.take 10 (.take 11 (.take 12 (.take 13 (.take 14 (.all [(15,.take 16 (.take 17 (.take 18 (.all [(19,.all [(20,.take 21 (.done))])])))),(19,.all [(15,.take 16 (.take 17 (.take 18 (.all [(20,.take 21 (.done))]))))])])))))))))))))))) ?_
   repeat' first|refine Kf ?_|intro _|constructor
   all_goals refine T1.callv rfl rfl rfl rfl rfl (Zcf ht (n:=(k:Int) * W+(0+y2+y1+y0)) (d:=W * ((c - 1:Nat):Int)) (by omega) (by omega) hZc hf2) ?_
   all_goals rintro _ _ ⟨rfl,rfl⟩
   all_goals (repeat' first|refine Kf ?_|intro _|constructor)
   all_goals exact Post.cut _ _ ⟨_,rfl,rfl⟩ Zad Zaa
  rintro _ _ ⟨bf,rfl,rfl⟩
  repeat' first|refine Kz ?_|intro _
  refine TL.u rfl (Zat (c:=cFq) (y0:=([],[])) (y1:=(q20,q21)) (i:=2) (k:=0) (vs:=[.string ⟨q20.toArray⟩,.string ⟨q21.toArray⟩]) rfl rfl rfl rfl rfl rfl rfl rfl rfl) ?_
  rw [show ([(q00,q01),(q10,q11),([],[])]:List (List UInt8 × List UInt8)).set 2 (q20,q21)=[(q00,q01),(q10,q11),(q20,q21)] from rfl]
  repeat' first|refine Kz ?_|intro _
  (refine Zac ?_)
  exact ⟨_,⟨_,rfl,rfl⟩,Zaa⟩
end Go.Proofs.YtbfgldlfciimiaaGreatDoor
