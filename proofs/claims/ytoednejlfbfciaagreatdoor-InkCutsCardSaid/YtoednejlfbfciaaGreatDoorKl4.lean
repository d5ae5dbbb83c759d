/- Walks: InkCuts. -/
import Derived.Test.YtoednejlfbfciaaGreatDoorKl1
import Derived.Test.YtoednejlfbfciaaGreatDoorKr1
set_option maxHeartbeats 1000000
namespace Go.Sx
open Go
def ix4 (a b c d:Int) (k:Nat):Int:=([a,b,c,d][k]?).getD 0
theorem at4 {a b c d:Int} {k:Nat} (h:k < 4):([.int .i64 a,.int .i64 b,.int .i64 c,.int .i64 d]:List Value)[k]?=some (.int .i64 (ix4 a b c d k)):=by
 have:k=0∨k=1∨k=2∨k=3:=by omega
 rcases this with rfl|rfl|rfl|rfl<;>rfl
end Go.Sx
namespace Go.Proofs.YtoednejlfbfciaaGreatDoor
open Go Go.Sx
variable {w0:World} {As:List Ent}
set_option maxRecDepth 100000 in
set_option maxHeartbeats 8000000 in
theorem Zo9 (ht:Tab w0) (he:ErrR w0) {r1 r2 r3 r4 most s1 s2 s3 s4 l:Int} (k1:(0≤s1∧s1≤65535)) (k2:(0≤s2∧s2≤65535)) (k3:(0≤s3∧s3≤65535)) (k4:(0≤s4∧s4≤65535)) (hl:0≤l∧l≤4294967295) :
  CallsS Tryz.prog w0 5 [.agg #[.int .i64 r1,.int .i64 r2,.int .i64 r3,.int .i64 r4],.int .i64 most,.agg #[.int .u16 s1,.int .u16 s2,.int .u16 s3,.int .u16 s4],.int .u32 l] As fun u _=>u=.bool true:=by
 refine Zab Tryz.func5 rfl Tryz.ntmps5 rfl ?_
 repeat' first|refine Kz ?_|intro _
 rename_i b4 b6
 refine Ks rfl (Zen ht he) ?_
 repeat' first|refine Kz ?_|intro _
 rename_i b9 b10
 refine Tri.midB (fun e' As'=>e'=[(1,.int .i64 most),(3,.int .u32 l),(4,.pointer (some ⟨b4,0,none⟩)),(9,.pointer (some ⟨b9,0,none⟩)),(10,.pointer (some ⟨b10,0,none⟩))]∧As'=.cl b9 [.int .i64 (s1 % 10001),.int .i64 (s2 % 10001),.int .i64 (s3 % 10001),.int .i64 (s4 % 10001)] 41::.cl b10 [.int .i64 s1,.int .i64 s2,.int .i64 s3,.int .i64 s4] 41::.cl b4 [.int .i64 r1,.int .i64 r2,.int .i64 r3,.int .i64 r4] 41::As) ?_ ?_
 ·refine Zax 5 ?_
  repeat' first|refine Kz ?_|intro _
  exact Post.cut _ _ ⟨rfl,rfl⟩ Zad Zaa
 rintro _ _ ⟨rfl,rfl⟩
 iterate 2 refine Stp.h ?_
 refine Tri.mid (fun e' As'=>∃ b13,e'=[(1,.int .i64 most),(3,.int .u32 l),(4,.pointer (some ⟨b4,0,none⟩)),(9,.pointer (some ⟨b9,0,none⟩)),(10,.pointer (some ⟨b10,0,none⟩)),(13,.pointer (some ⟨b13,0,none⟩))]∧As'=.cl b13 [.int .i64 s1,.int .i64 s2,.int .i64 s3,.int .i64 s4] 41::.cl b9 [.int .i64 (s1 % 10001),.int .i64 (s2 % 10001),.int .i64 (s3 % 10001),.int .i64 (s4 % 10001)] 41::.cl b10 [.int .i64 s1,.int .i64 s2,.int .i64 s3,.int .i64 s4] 41::.cl b4 [.int .i64 r1,.int .i64 r2,.int .i64 r3,.int .i64 r4] 41::As) ?_ ?_
 ·repeat' first|refine Kz ?_|intro _
  exact Post.cut _ _ ⟨_,rfl,rfl⟩ Zad Zaa
 rintro _ _ ⟨b13,rfl,rfl⟩
 iterate 2 refine Stp.h ?_
 refine Tri.mid (fun e' As'=>∃ m1 m2 m3 m4,e'=[(1,.int .i64 most),(3,.int .u32 l),(4,.pointer (some ⟨b4,0,none⟩)),(9,.pointer (some ⟨b9,0,none⟩)),(10,.pointer (some ⟨b10,0,none⟩)),(13,.pointer (some ⟨b13,0,none⟩))]∧As'=.cl b13 [.int .i64 m1,.int .i64 m2,.int .i64 m3,.int .i64 m4] 41::.cl b9 [.int .i64 (s1 % 10001),.int .i64 (s2 % 10001),.int .i64 (s3 % 10001),.int .i64 (s4 % 10001)] 41::.cl b10 [.int .i64 s1,.int .i64 s2,.int .i64 s3,.int .i64 s4] 41::.cl b4 [.int .i64 r1,.int .i64 r2,.int .i64 r3,.int .i64 r4] 41::As) ?_ ?_
 ·rcases (by omega:l % 4=0∨l % 4=1∨l % 4=2∨l % 4=3) with h4|h4|h4|h4
  ·repeat' first|refine Kz ?_|intro _
   rw [h4]
   repeat' first|refine Kz ?_|intro _
   exact Post.cut _ _ ⟨r1,s2,s3,s4,rfl,rfl⟩ Zad Zaa
  ·repeat' first|refine Kz ?_|intro _
   rw [h4]
   repeat' first|refine Kz ?_|intro _
   exact Post.cut _ _ ⟨s1,r1,s3,s4,rfl,rfl⟩ Zad Zaa
  ·repeat' first|refine Kz ?_|intro _
   rw [h4]
   repeat' first|refine Kz ?_|intro _
   exact Post.cut _ _ ⟨s1,s2,r1,s4,rfl,rfl⟩ Zad Zaa
  ·repeat' first|refine Kz ?_|intro _
   rw [h4]
   repeat' first|refine Kz ?_|intro _
   exact Post.cut _ _ ⟨s1,s2,s3,r1,rfl,rfl⟩ Zad Zaa
 rintro _ _ ⟨m1,m2,m3,m4,rfl,rfl⟩
 repeat' first|refine Kz ?_|intro _
 refine Zax 5 ?_
 repeat' first|refine Kz ?_|intro _
 rename_i b15
 refine Ks rfl (Zb9 (c:=r1) (m:=r2) (y:=r3) (k:=r4)) ?_
 repeat' first|refine Kz ?_|intro _
 refine Ks rfl (Zfu (c:=r1) (m:=r2) (y:=r3) (k:=r4)) ?_
 generalize totalW ⟨r1,r2,r3,r4⟩=q
 obtain ⟨q,qe⟩:=q
 repeat' first|refine Kz ?_|intro _
 refine Tri.midB (fun e' As'=>e'=[(1,.int .i64 most),(3,.int .u32 l),(57,.agg #[.int .i64 r1,.int .i64 r2,.int .i64 r3,.int .i64 r4,.int .i64 s1,.int .i64 s2,.int .i64 s3,.int .i64 s4,.int .i64 (s1 % 10001),.int .i64 (s2 % 10001),.int .i64 (s3 % 10001),.int .i64 (s4 % 10001),.int .i64 m1,.int .i64 m2,.int .i64 m3,.int .i64 m4]),(58,.int .i64 0)]∧As'=.cl b15 [.int .i64 r1,.int .i64 r2,.int .i64 r3,.int .i64 r4] 41::As) ?_ ?_
 ·refine Tri.loop (ι:=Nat) (fun k=>k≤4) (fun k=>4 - k) (fun k=>[(1,.int .i64 most),(3,.int .u32 l),(57,.agg #[.int .i64 r1,.int .i64 r2,.int .i64 r3,.int .i64 r4,.int .i64 s1,.int .i64 s2,.int .i64 s3,.int .i64 s4,.int .i64 (s1 % 10001),.int .i64 (s2 % 10001),.int .i64 (s3 % 10001),.int .i64 (s4 % 10001),.int .i64 m1,.int .i64 m2,.int .i64 m3,.int .i64 m4]),(58,.int .i64 0),(15,.pointer (some ⟨b15,0,none⟩)),(90,.agg #[.int .i64 most,.int .i64 (l % 262145),.int .i64 (l % 40001),.int .i64 (10000+l % 30001)]),(91,.int .i64 k)]) (fun _=>.cl b15 [.int .i64 r1,.int .i64 r2,.int .i64 r3,.int .i64 r4] 41::As) 0 (by decide) Zad Zaa ?_
  intro k hk
  repeat' first|refine Kz ?_|intro _
  (refine Kx (fun hc=>?_) fun hc=>?_)
  ·have hk4:k < 4:=by omega
   have hkb:Nat.blt k 4=true:=by simpa [Nat.blt_eq] using hk4
   repeat' first|refine Kz ?_|intro _
   refine TL.f rfl rfl (Zdm rfl rfl rfl hkb (at4 hk4)) ?_
   generalize ix4 (most) (l % 262145) (l % 40001) (10000+l % 30001) k=m
   have hP:=fun Bs=>Zbe (w0:=w0) (As:=Bs) (c:=r1) (m:=r2) (y:=r3) (k:=r4) (n:=m)
   have hR:=fun Bs=>Zjh (w0:=w0) (As:=Bs) (c:=r1) (m:=r2) (y:=r3) (k:=r4) (n:=m)
   have hP2:=fun Bs=>Zbu (w0:=w0) (As:=Bs) (c:=r1) (m:=r2) (y:=r3) (k:=r4) (n:=m)
   have hR2:=fun Bs=>Zfv (w0:=w0) (As:=Bs) (c:=r1) (m:=r2) (y:=r3) (k:=r4) (n:=m)
   generalize cutW ⟨r1,r2,r3,r4⟩ m=q at hP hR
   generalize limitW ⟨r1,r2,r3,r4⟩ m=p at hP2 hR2
   obtain ⟨⟨q1,q2,q3,q4⟩,qe⟩:=q
   obtain ⟨⟨p1,p2,p3,p4⟩,pe⟩:=p
   simp only [Ink.val] at hP hR hP2 hR2
   repeat' first|refine Kz ?_|intro _
   refine Ks rfl (hP _) ?_
   repeat' first|refine Kz ?_|intro _
   refine Ks rfl (hR _) ?_
   repeat' first|refine Kz ?_|intro _
   refine Ks rfl (hP2 _) ?_
   repeat' first|refine Kz ?_|intro _
   refine Ks rfl (hR2 _) ?_
   repeat' first|refine Kz ?_|intro _
   refine TL.f rfl rfl (Zbf rfl rfl) ?_
   rw [decide_eq_true ⟨rfl,rfl,rfl,rfl⟩]
   repeat' first|refine Kz ?_|intro _
   refine TL.f rfl rfl (Zbf rfl rfl) ?_
   rw [decide_eq_true ⟨rfl,rfl,rfl,rfl⟩]
   repeat' first|refine Kz ?_|intro _
   exact Post.round (k+1) (by omega) (by omega) Zad Zaa
  ·repeat' first|refine Kz ?_|intro _
   exact Post.cut _ _ ⟨rfl,rfl⟩ Zad Zaa
 rintro _ _ ⟨rfl,rfl⟩
 repeat' first|refine Kz ?_|intro _
 rename_i b15
 refine Ks rfl (Zb9 (c:=s1) (m:=s2) (y:=s3) (k:=s4)) ?_
 repeat' first|refine Kz ?_|intro _
 refine Ks rfl (Zfu (c:=s1) (m:=s2) (y:=s3) (k:=s4)) ?_
 generalize totalW ⟨s1,s2,s3,s4⟩=q
 obtain ⟨q,qe⟩:=q
 repeat' first|refine Kz ?_|intro _
 refine Tri.midB (fun e' As'=>e'=[(1,.int .i64 most),(3,.int .u32 l),(57,.agg #[.int .i64 r1,.int .i64 r2,.int .i64 r3,.int .i64 r4,.int .i64 s1,.int .i64 s2,.int .i64 s3,.int .i64 s4,.int .i64 (s1 % 10001),.int .i64 (s2 % 10001),.int .i64 (s3 % 10001),.int .i64 (s4 % 10001),.int .i64 m1,.int .i64 m2,.int .i64 m3,.int .i64 m4]),(58,.int .i64 1)]∧As'=.cl b15 [.int .i64 s1,.int .i64 s2,.int .i64 s3,.int .i64 s4] 41::As) ?_ ?_
 ·refine Tri.loop (ι:=Nat) (fun k=>k≤4) (fun k=>4 - k) (fun k=>[(1,.int .i64 most),(3,.int .u32 l),(57,.agg #[.int .i64 r1,.int .i64 r2,.int .i64 r3,.int .i64 r4,.int .i64 s1,.int .i64 s2,.int .i64 s3,.int .i64 s4,.int .i64 (s1 % 10001),.int .i64 (s2 % 10001),.int .i64 (s3 % 10001),.int .i64 (s4 % 10001),.int .i64 m1,.int .i64 m2,.int .i64 m3,.int .i64 m4]),(58,.int .i64 1),(15,.pointer (some ⟨b15,0,none⟩)),(90,.agg #[.int .i64 most,.int .i64 (l % 262145),.int .i64 (l % 40001),.int .i64 (10000+l % 30001)]),(91,.int .i64 k)]) (fun _=>.cl b15 [.int .i64 s1,.int .i64 s2,.int .i64 s3,.int .i64 s4] 41::As) 0 (by decide) Zad Zaa ?_
  intro k hk
  repeat' first|refine Kz ?_|intro _
  (refine Kx (fun hc=>?_) fun hc=>?_)
  ·have hk4:k < 4:=by omega
   have hkb:Nat.blt k 4=true:=by simpa [Nat.blt_eq] using hk4
   repeat' first|refine Kz ?_|intro _
   refine TL.f rfl rfl (Zdm rfl rfl rfl hkb (at4 hk4)) ?_
   generalize ix4 (most) (l % 262145) (l % 40001) (10000+l % 30001) k=m
   have hP:=fun Bs=>Zbe (w0:=w0) (As:=Bs) (c:=s1) (m:=s2) (y:=s3) (k:=s4) (n:=m)
   have hR:=fun Bs=>Zjh (w0:=w0) (As:=Bs) (c:=s1) (m:=s2) (y:=s3) (k:=s4) (n:=m)
   have hP2:=fun Bs=>Zbu (w0:=w0) (As:=Bs) (c:=s1) (m:=s2) (y:=s3) (k:=s4) (n:=m)
   have hR2:=fun Bs=>Zfv (w0:=w0) (As:=Bs) (c:=s1) (m:=s2) (y:=s3) (k:=s4) (n:=m)
   generalize cutW ⟨s1,s2,s3,s4⟩ m=q at hP hR
   generalize limitW ⟨s1,s2,s3,s4⟩ m=p at hP2 hR2
   obtain ⟨⟨q1,q2,q3,q4⟩,qe⟩:=q
   obtain ⟨⟨p1,p2,p3,p4⟩,pe⟩:=p
   simp only [Ink.val] at hP hR hP2 hR2
   repeat' first|refine Kz ?_|intro _
   refine Ks rfl (hP _) ?_
   repeat' first|refine Kz ?_|intro _
   refine Ks rfl (hR _) ?_
   repeat' first|refine Kz ?_|intro _
   refine Ks rfl (hP2 _) ?_
   repeat' first|refine Kz ?_|intro _
   refine Ks rfl (hR2 _) ?_
   repeat' first|refine Kz ?_|intro _
   refine TL.f rfl rfl (Zbf rfl rfl) ?_
   rw [decide_eq_true ⟨rfl,rfl,rfl,rfl⟩]
   repeat' first|refine Kz ?_|intro _
   refine TL.f rfl rfl (Zbf rfl rfl) ?_
   rw [decide_eq_true ⟨rfl,rfl,rfl,rfl⟩]
   repeat' first|refine Kz ?_|intro _
   exact Post.round (k+1) (by omega) (by omega) Zad Zaa
  ·repeat' first|refine Kz ?_|intro _
   exact Post.cut _ _ ⟨rfl,rfl⟩ Zad Zaa
 rintro _ _ ⟨rfl,rfl⟩
 repeat' first|refine Kz ?_|intro _
 rename_i b15
 refine Ks rfl (Zb9 (c:=s1 % 10001) (m:=s2 % 10001) (y:=s3 % 10001) (k:=s4 % 10001)) ?_
 repeat' first|refine Kz ?_|intro _
 refine Ks rfl (Zfu (c:=s1 % 10001) (m:=s2 % 10001) (y:=s3 % 10001) (k:=s4 % 10001)) ?_
 generalize totalW ⟨s1 % 10001,s2 % 10001,s3 % 10001,s4 % 10001⟩=q
 obtain ⟨q,qe⟩:=q
 repeat' first|refine Kz ?_|intro _
 refine Tri.midB (fun e' As'=>e'=[(1,.int .i64 most),(3,.int .u32 l),(57,.agg #[.int .i64 r1,.int .i64 r2,.int .i64 r3,.int .i64 r4,.int .i64 s1,.int .i64 s2,.int .i64 s3,.int .i64 s4,.int .i64 (s1 % 10001),.int .i64 (s2 % 10001),.int .i64 (s3 % 10001),.int .i64 (s4 % 10001),.int .i64 m1,.int .i64 m2,.int .i64 m3,.int .i64 m4]),(58,.int .i64 2)]∧As'=.cl b15 [.int .i64 (s1 % 10001),.int .i64 (s2 % 10001),.int .i64 (s3 % 10001),.int .i64 (s4 % 10001)] 41::As) ?_ ?_
 ·refine Tri.loop (ι:=Nat) (fun k=>k≤4) (fun k=>4 - k) (fun k=>[(1,.int .i64 most),(3,.int .u32 l),(57,.agg #[.int .i64 r1,.int .i64 r2,.int .i64 r3,.int .i64 r4,.int .i64 s1,.int .i64 s2,.int .i64 s3,.int .i64 s4,.int .i64 (s1 % 10001),.int .i64 (s2 % 10001),.int .i64 (s3 % 10001),.int .i64 (s4 % 10001),.int .i64 m1,.int .i64 m2,.int .i64 m3,.int .i64 m4]),(58,.int .i64 2),(15,.pointer (some ⟨b15,0,none⟩)),(90,.agg #[.int .i64 most,.int .i64 (l % 262145),.int .i64 (l % 40001),.int .i64 (10000+l % 30001)]),(91,.int .i64 k)]) (fun _=>.cl b15 [.int .i64 (s1 % 10001),.int .i64 (s2 % 10001),.int .i64 (s3 % 10001),.int .i64 (s4 % 10001)] 41::As) 0 (by decide) Zad Zaa ?_
  intro k hk
  repeat' first|refine Kz ?_|intro _
  (refine Kx (fun hc=>?_) fun hc=>?_)
  ·have hk4:k < 4:=by omega
   have hkb:Nat.blt k 4=true:=by simpa [Nat.blt_eq] using hk4
   repeat' first|refine Kz ?_|intro _
   refine TL.f rfl rfl (Zdm rfl rfl rfl hkb (at4 hk4)) ?_
   generalize ix4 (most) (l % 262145) (l % 40001) (10000+l % 30001) k=m
   have hP:=fun Bs=>Zbe (w0:=w0) (As:=Bs) (c:=s1 % 10001) (m:=s2 % 10001) (y:=s3 % 10001) (k:=s4 % 10001) (n:=m)
   have hR:=fun Bs=>Zjh (w0:=w0) (As:=Bs) (c:=s1 % 10001) (m:=s2 % 10001) (y:=s3 % 10001) (k:=s4 % 10001) (n:=m)
   have hP2:=fun Bs=>Zbu (w0:=w0) (As:=Bs) (c:=s1 % 10001) (m:=s2 % 10001) (y:=s3 % 10001) (k:=s4 % 10001) (n:=m)
   have hR2:=fun Bs=>Zfv (w0:=w0) (As:=Bs) (c:=s1 % 10001) (m:=s2 % 10001) (y:=s3 % 10001) (k:=s4 % 10001) (n:=m)
   generalize cutW ⟨s1 % 10001,s2 % 10001,s3 % 10001,s4 % 10001⟩ m=q at hP hR
   generalize limitW ⟨s1 % 10001,s2 % 10001,s3 % 10001,s4 % 10001⟩ m=p at hP2 hR2
   obtain ⟨⟨q1,q2,q3,q4⟩,qe⟩:=q
   obtain ⟨⟨p1,p2,p3,p4⟩,pe⟩:=p
   simp only [Ink.val] at hP hR hP2 hR2
   repeat' first|refine Kz ?_|intro _
   refine Ks rfl (hP _) ?_
   repeat' first|refine Kz ?_|intro _
   refine Ks rfl (hR _) ?_
   repeat' first|refine Kz ?_|intro _
   refine Ks rfl (hP2 _) ?_
   repeat' first|refine Kz ?_|intro _
   refine Ks rfl (hR2 _) ?_
   repeat' first|refine Kz ?_|intro _
   refine TL.f rfl rfl (Zbf rfl rfl) ?_
   rw [decide_eq_true ⟨rfl,rfl,rfl,rfl⟩]
   repeat' first|refine Kz ?_|intro _
   refine TL.f rfl rfl (Zbf rfl rfl) ?_
   rw [decide_eq_true ⟨rfl,rfl,rfl,rfl⟩]
   repeat' first|refine Kz ?_|intro _
   exact Post.round (k+1) (by omega) (by omega) Zad Zaa
  ·repeat' first|refine Kz ?_|intro _
   exact Post.cut _ _ ⟨rfl,rfl⟩ Zad Zaa
 rintro _ _ ⟨rfl,rfl⟩
 repeat' first|refine Kz ?_|intro _
 rename_i b15
 refine Ks rfl (Zb9 (c:=m1) (m:=m2) (y:=m3) (k:=m4)) ?_
 repeat' first|refine Kz ?_|intro _
 refine Ks rfl (Zfu (c:=m1) (m:=m2) (y:=m3) (k:=m4)) ?_
 generalize totalW ⟨m1,m2,m3,m4⟩=q
 obtain ⟨q,qe⟩:=q
 repeat' first|refine Kz ?_|intro _
 refine Tri.midB (fun e' As'=>e'=[(1,.int .i64 most),(3,.int .u32 l),(57,.agg #[.int .i64 r1,.int .i64 r2,.int .i64 r3,.int .i64 r4,.int .i64 s1,.int .i64 s2,.int .i64 s3,.int .i64 s4,.int .i64 (s1 % 10001),.int .i64 (s2 % 10001),.int .i64 (s3 % 10001),.int .i64 (s4 % 10001),.int .i64 m1,.int .i64 m2,.int .i64 m3,.int .i64 m4]),(58,.int .i64 3)]∧As'=.cl b15 [.int .i64 m1,.int .i64 m2,.int .i64 m3,.int .i64 m4] 41::As) ?_ ?_
 ·refine Tri.loop (ι:=Nat) (fun k=>k≤4) (fun k=>4 - k) (fun k=>[(1,.int .i64 most),(3,.int .u32 l),(57,.agg #[.int .i64 r1,.int .i64 r2,.int .i64 r3,.int .i64 r4,.int .i64 s1,.int .i64 s2,.int .i64 s3,.int .i64 s4,.int .i64 (s1 % 10001),.int .i64 (s2 % 10001),.int .i64 (s3 % 10001),.int .i64 (s4 % 10001),.int .i64 m1,.int .i64 m2,.int .i64 m3,.int .i64 m4]),(58,.int .i64 3),(15,.pointer (some ⟨b15,0,none⟩)),(90,.agg #[.int .i64 most,.int .i64 (l % 262145),.int .i64 (l % 40001),.int .i64 (10000+l % 30001)]),(91,.int .i64 k)]) (fun _=>.cl b15 [.int .i64 m1,.int .i64 m2,.int .i64 m3,.int .i64 m4] 41::As) 0 (by decide) Zad Zaa ?_
  intro k hk
  repeat' first|refine Kz ?_|intro _
  (refine Kx (fun hc=>?_) fun hc=>?_)
  ·have hk4:k < 4:=by omega
   have hkb:Nat.blt k 4=true:=by simpa [Nat.blt_eq] using hk4
   repeat' first|refine Kz ?_|intro _
   refine TL.f rfl rfl (Zdm rfl rfl rfl hkb (at4 hk4)) ?_
   generalize ix4 (most) (l % 262145) (l % 40001) (10000+l % 30001) k=m
   have hP:=fun Bs=>Zbe (w0:=w0) (As:=Bs) (c:=m1) (m:=m2) (y:=m3) (k:=m4) (n:=m)
   have hR:=fun Bs=>Zjh (w0:=w0) (As:=Bs) (c:=m1) (m:=m2) (y:=m3) (k:=m4) (n:=m)
   have hP2:=fun Bs=>Zbu (w0:=w0) (As:=Bs) (c:=m1) (m:=m2) (y:=m3) (k:=m4) (n:=m)
   have hR2:=fun Bs=>Zfv (w0:=w0) (As:=Bs) (c:=m1) (m:=m2) (y:=m3) (k:=m4) (n:=m)
   generalize cutW ⟨m1,m2,m3,m4⟩ m=q at hP hR
   generalize limitW ⟨m1,m2,m3,m4⟩ m=p at hP2 hR2
   obtain ⟨⟨q1,q2,q3,q4⟩,qe⟩:=q
   obtain ⟨⟨p1,p2,p3,p4⟩,pe⟩:=p
   simp only [Ink.val] at hP hR hP2 hR2
   repeat' first|refine Kz ?_|intro _
   refine Ks rfl (hP _) ?_
   repeat' first|refine Kz ?_|intro _
   refine Ks rfl (hR _) ?_
   repeat' first|refine Kz ?_|intro _
   refine Ks rfl (hP2 _) ?_
   repeat' first|refine Kz ?_|intro _
   refine Ks rfl (hR2 _) ?_
   repeat' first|refine Kz ?_|intro _
   refine TL.f rfl rfl (Zbf rfl rfl) ?_
   rw [decide_eq_true ⟨rfl,rfl,rfl,rfl⟩]
   repeat' first|refine Kz ?_|intro _
   refine TL.f rfl rfl (Zbf rfl rfl) ?_
   rw [decide_eq_true ⟨rfl,rfl,rfl,rfl⟩]
   repeat' first|refine Kz ?_|intro _
   exact Post.round (k+1) (by omega) (by omega) Zad Zaa
  ·repeat' first|refine Kz ?_|intro _
   exact Post.cut _ _ ⟨rfl,rfl⟩ Zad Zaa
 rintro _ _ ⟨rfl,rfl⟩
 repeat' first|refine Kz ?_|intro _
 (refine Zac ?_)
 exact ⟨_,rfl,Ents.refl _⟩
end Go.Proofs.YtoednejlfbfciaaGreatDoor
