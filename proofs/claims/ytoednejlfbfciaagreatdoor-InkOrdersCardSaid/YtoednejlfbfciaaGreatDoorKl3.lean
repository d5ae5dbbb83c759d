/- Walks: InkOrders. -/
import Derived.Test.YtoednejlfbfciaaGreatDoorKl1
import Derived.Test.YtoednejlfbfciaaGreatDoorKp6
set_option maxHeartbeats 1000000
namespace Go.Proofs.YtoednejlfbfciaaGreatDoor
open Go Go.Sx
variable {w0:World} {As:List Ent}
set_option maxRecDepth 100000 in
set_option maxHeartbeats 2000000 in
theorem Zk1 (ht:Tab w0) (he:ErrR w0) {a1 a2 a3 a4 l:Int} (h1:0≤a1∧a1≤65535) (h2:0≤a2∧a2≤65535) (h3:0≤a3∧a3≤65535) (h4:0≤a4∧a4≤65535) (hl:0≤l∧l≤4294967295) :
  CallsS Tryz.prog w0 4 [.agg #[.int .u16 a1,.int .u16 a2,.int .u16 a3,.int .u16 a4],.int .u32 l] As fun u _=>u=.bool true:=by
 obtain ⟨N,hN⟩:∃ N,N=l % 262141:=⟨_,rfl⟩
 have hN1:0≤N∧N≤262140:=by omega
 have hok:Ink.ok ⟨a1,a2,a3,a4⟩:=⟨h1.1,h2.1,h3.1,h4.1⟩
 have hless:=Zju hok hN1.1
 have htot:=Zjt hok hN1.1
 have hagain:=Zlb hok hN1.1
 have hcw:cutW ⟨a1,a2,a3,a4⟩ N=(cutI ⟨a1,a2,a3,a4⟩ N,0):=by unfold cutW;rw [if_pos ⟨Zyn.2 ⟨h1,h2,h3,h4⟩,hN1⟩]
 have hdef:cutI ⟨a1,a2,a3,a4⟩ N=if (⟨a1,a2,a3,a4⟩:Ink).tot≤N then ⟨a1,a2,a3,a4⟩ else ⟨partI a1 (N - min a4 N) (a1+a2+a3),partI a2 (N - min a4 N) (a1+a2+a3),partI a3 (N - min a4 N) (a1+a2+a3),min a4 N⟩:=rfl
 have hord:=fun q1 q2 q3 q4=>Zre (q1:=q1) (q2:=q2) (q3:=q3) (q4:=q4) h1.1 h2.1 h3.1 h4.1 hN1.1
 generalize hq:cutI ⟨a1,a2,a3,a4⟩ N=q at *
 obtain ⟨q1,q2,q3,q4⟩:=q
 obtain ⟨⟨p1,p2,p3,p4⟩,r1,r2,r3,r4⟩:=hless
 simp only at p1 p2 p3 p4 r1 r2 r3 r4
 unfold Ink.tot Ink.three at htot
 simp only at htot
 refine Zab Tryz.func4 rfl Tryz.ntmps4 rfl ?_
 repeat' first|refine Kz ?_|intro _
 refine Ks rfl (Zen ht he) ?_
 repeat' first|refine Kz ?_|intro _
 refine Ks rfl (Ziy h1 h2 h3 h4) ?_
 repeat' first|refine Kz ?_|intro _
 rename_i b5
 rw [← hN]
 refine TL.callv rfl rfl rfl rfl (Zbe (c:=a1) (m:=a2) (y:=a3) (k:=a4) (n:=N)) ?_
 rw [hcw]
 rintro _ _ ⟨rfl,rfl⟩
 show TL _ _ _ _ _ ((_,.tuple #[.agg #[.int .i64 q1,.int .i64 q2,.int .i64 q3,.int .i64 q4],.int .i64 0])::_) _ _
 repeat' first|refine Kz ?_|intro _
 rename_i b7
 obtain ⟨⟨m12,m13,m21,m23,m31,m32⟩,hfl⟩:=hord q1 q2 q3 q4 rfl
 have hk4:q4≤N:=by omega
 obtain ⟨s,hs⟩:∃ s,s=a1+a2+a3:=⟨_,rfl⟩
 have hs1:0≤s∧s≤196605:=by omega
 obtain ⟨r,hr⟩:∃ r,r=N - q4:=⟨_,rfl⟩
 have hr1:0≤r∧r≤262140:=by omega
 rw [← hs,← hr] at hfl
 refine Tri.mid (fun e' As'=>e'=[(5,.pointer (some ⟨b5,0,none⟩)),(7,.pointer (some ⟨b7,0,none⟩)),(9,.int .i64 s),(10,.int .i64 r)]∧As'=.cl b7 [.int .i64 q1,.int .i64 q2,.int .i64 q3,.int .i64 q4] 41::.cl b5 [.int .i64 a1,.int .i64 a2,.int .i64 a3,.int .i64 a4] 41::As) ?_ ?_
 ·refine Zal [.cl b7 [.int .i64 q1,.int .i64 q2,.int .i64 q3,.int .i64 q4] 41,.cl b5 [.int .i64 a1,.int .i64 a2,.int .i64 a3,.int .i64 a4] 41] [] (.take 0 (.take 1 (.take 2 (.take 3 (.take 4 (.take 5 (.take 6 (.take 7 (.take 8 (.take 9 (.take 10 (.take 11 (.take 12 (.take 13 (.done))))))))))))))) ?_
  repeat' first|refine Kf ?_|intro _|constructor
  rw [← hs,← hr]
  exact Post.cut _ _ ⟨rfl,rfl⟩ Zad Zaa
 rintro _ _ ⟨rfl,rfl⟩
 clear hs hr hdef hq hord
 obtain ⟨x1,y1⟩:(0≤q1 * s∧q1 * s≤65535 * 196605)∧(0≤a1 * r∧a1 * r≤65535 * 262140):=⟨Zfy ⟨p1,by omega⟩ hs1,Zfy h1 hr1⟩
 have z1:0≤(q1+1) * s∧(q1+1) * s≤65536 * 196605:=Zfy ⟨by omega,by omega⟩ hs1
 obtain ⟨x2,y2⟩:(0≤q2 * s∧q2 * s≤65535 * 196605)∧(0≤a2 * r∧a2 * r≤65535 * 262140):=⟨Zfy ⟨p2,by omega⟩ hs1,Zfy h2 hr1⟩
 have z2:0≤(q2+1) * s∧(q2+1) * s≤65536 * 196605:=Zfy ⟨by omega,by omega⟩ hs1
 obtain ⟨x3,y3⟩:(0≤q3 * s∧q3 * s≤65535 * 196605)∧(0≤a3 * r∧a3 * r≤65535 * 262140):=⟨Zfy ⟨p3,by omega⟩ hs1,Zfy h3 hr1⟩
 have z3:0≤(q3+1) * s∧(q3+1) * s≤65536 * 196605:=Zfy ⟨by omega,by omega⟩ hs1
 repeat' first|refine Kz ?_|intro _
 refine Zax 4 ?_
 repeat' first|refine Kz ?_|intro _
 refine Zax 4 ?_
 repeat' first|refine Kz ?_|intro _
 refine Tri.mid (fun e' As'=>e'=[(5,.pointer (some ⟨b5,0,none⟩)),(7,.pointer (some ⟨b7,0,none⟩)),(9,.int .i64 s),(10,.int .i64 r),(11,.int .i64 0),(40,.int .i64 0),(43,.int .i64 0),(61,.bool false)]∧As'=.cl b7 [.int .i64 q1,.int .i64 q2,.int .i64 q3,.int .i64 q4] 41::.cl b5 [.int .i64 a1,.int .i64 a2,.int .i64 a3,.int .i64 a4] 41::As) ?_ ?_
 ·refine Zal [.cl b7 [.int .i64 q1,.int .i64 q2,.int .i64 q3,.int .i64 q4] 41,.cl b5 [.int .i64 a1,.int .i64 a2,.int .i64 a3,.int .i64 a4] 41] [] (.take 0 (.take 1 (.take 2 (.take 3 (.take 4 (.take 5 (.take 6 (.take 7 (.take 8 (.take 9 (.take 10 (.take 11 (.take 12 (.take 13 (.take 14 (.take 15 (.done))))))))))))))))) ?_
  repeat' first|refine Kf ?_|intro _|constructor
  rw [decide_eq_false (show ¬ q1 < q1 by omega)]
  exact Post.cut _ _ ⟨rfl,rfl⟩ Zad Zaa
 rintro _ _ ⟨rfl,rfl⟩
 repeat' first|refine Kz ?_|intro _
 refine Tri.mid (fun e' As'=>e'=[(5,.pointer (some ⟨b5,0,none⟩)),(7,.pointer (some ⟨b7,0,none⟩)),(9,.int .i64 s),(10,.int .i64 r),(11,.int .i64 0),(40,.int .i64 0),(43,.int .i64 1),(61,.bool false)]∧As'=.cl b7 [.int .i64 q1,.int .i64 q2,.int .i64 q3,.int .i64 q4] 41::.cl b5 [.int .i64 a1,.int .i64 a2,.int .i64 a3,.int .i64 a4] 41::As) ?_ ?_
 ·by_cases hle:a1≤a2
  ·refine Zal [.cl b7 [.int .i64 q1,.int .i64 q2,.int .i64 q3,.int .i64 q4] 41,.cl b5 [.int .i64 a1,.int .i64 a2,.int .i64 a3,.int .i64 a4] 41] [] (.take 0 (.take 1 (.take 2 (.take 3 (.take 4 (.take 5 (.take 6 (.take 7 (.take 8 (.take 9 (.take 10 (.take 11 (.take 12 (.take 13 (.take 14 (.take 15 (.done))))))))))))))))) ?_
   repeat' first|refine Kf ?_|intro _|constructor
   rw [decide_eq_false (show ¬ q2 < q1 by omega)]
   exact Post.cut _ _ ⟨rfl,rfl⟩ Zad Zaa
  ·refine Zal [.cl b7 [.int .i64 q1,.int .i64 q2,.int .i64 q3,.int .i64 q4] 41,.cl b5 [.int .i64 a1,.int .i64 a2,.int .i64 a3,.int .i64 a4] 41] [] (.take 0 (.take 1 (.take 2 (.take 3 (.take 4 (.take 5 (.take 6 (.take 7 (.take 8 (.take 9 (.take 10 (.take 11 (.take 12 (.take 13 (.take 14 (.take 15 (.done))))))))))))))))) ?_
   repeat' first|refine Kf ?_|intro _|constructor
   exact Post.cut _ _ ⟨rfl,rfl⟩ Zad Zaa
 rintro _ _ ⟨rfl,rfl⟩
 repeat' first|refine Kz ?_|intro _
 refine Tri.mid (fun e' As'=>e'=[(5,.pointer (some ⟨b5,0,none⟩)),(7,.pointer (some ⟨b7,0,none⟩)),(9,.int .i64 s),(10,.int .i64 r),(11,.int .i64 0),(40,.int .i64 0),(43,.int .i64 2),(61,.bool false)]∧As'=.cl b7 [.int .i64 q1,.int .i64 q2,.int .i64 q3,.int .i64 q4] 41::.cl b5 [.int .i64 a1,.int .i64 a2,.int .i64 a3,.int .i64 a4] 41::As) ?_ ?_
 ·by_cases hle:a1≤a3
  ·refine Zal [.cl b7 [.int .i64 q1,.int .i64 q2,.int .i64 q3,.int .i64 q4] 41,.cl b5 [.int .i64 a1,.int .i64 a2,.int .i64 a3,.int .i64 a4] 41] [] (.take 0 (.take 1 (.take 2 (.take 3 (.take 4 (.take 5 (.take 6 (.take 7 (.take 8 (.take 9 (.take 10 (.take 11 (.take 12 (.take 13 (.take 14 (.take 15 (.done))))))))))))))))) ?_
   repeat' first|refine Kf ?_|intro _|constructor
   rw [decide_eq_false (show ¬ q3 < q1 by omega)]
   exact Post.cut _ _ ⟨rfl,rfl⟩ Zad Zaa
  ·refine Zal [.cl b7 [.int .i64 q1,.int .i64 q2,.int .i64 q3,.int .i64 q4] 41,.cl b5 [.int .i64 a1,.int .i64 a2,.int .i64 a3,.int .i64 a4] 41] [] (.take 0 (.take 1 (.take 2 (.take 3 (.take 4 (.take 5 (.take 6 (.take 7 (.take 8 (.take 9 (.take 10 (.take 11 (.take 12 (.take 13 (.take 14 (.take 15 (.done))))))))))))))))) ?_
   repeat' first|refine Kf ?_|intro _|constructor
   exact Post.cut _ _ ⟨rfl,rfl⟩ Zad Zaa
 rintro _ _ ⟨rfl,rfl⟩
 repeat' first|refine Kz ?_|intro _
 refine Tri.mid (fun e' As'=>e'=[(5,.pointer (some ⟨b5,0,none⟩)),(7,.pointer (some ⟨b7,0,none⟩)),(9,.int .i64 s),(10,.int .i64 r),(11,.int .i64 0),(40,.int .i64 0),(96,.bool false)]∧As'=.cl b7 [.int .i64 q1,.int .i64 q2,.int .i64 q3,.int .i64 q4] 41::.cl b5 [.int .i64 a1,.int .i64 a2,.int .i64 a3,.int .i64 a4] 41::As) ?_ ?_
 ·refine Zal [.cl b7 [.int .i64 q1,.int .i64 q2,.int .i64 q3,.int .i64 q4] 41,.cl b5 [.int .i64 a1,.int .i64 a2,.int .i64 a3,.int .i64 a4] 41] [] (.take 0 (.take 1 (.take 2 (.take 3 (.take 4 (.take 5 (.take 6 (.take 7 (.take 8 (.take 9 (.take 10 (.take 11 (.take 12 (.take 13 (.take 14 (.take 15 (.take 16 (.take 17 (.take 18 (.take 19 (.take 20 (.take 21 (.take 22 (.take 23 (.take 24 (.take 25 (.take 26 (.take 27 (.take 28 (.take 29 (.take 30 (.take 31 (.take 32 (.take 33 (.done))))))))))))))))))))))))))))))))))) ?_
  repeat' first|refine Kf ?_|intro _|constructor
  refine TT.take rfl rfl rfl (Zbf rfl rfl) ?_
  by_cases heq:q1=a1∧q2=a2∧q3=a3∧q4=a4
  ·rw [decide_eq_true heq]
   repeat' first|refine Kf ?_|intro _|constructor
   exact Post.cut _ _ ⟨rfl,rfl⟩ Zad Zaa
  ·rw [decide_eq_false heq]
   obtain ⟨f1,f2,f3⟩:=hfl heq
   have g1:=f1.1
   by_cases hsp:0 < s
   ·have g2:=f1.2 hsp
    repeat' first|refine Kf ?_|intro _|constructor
    exact Post.cut _ _ ⟨rfl,rfl⟩ Zad Zaa
   ·have e0:s=0:=by omega
    have g2:(q1+1) * s≤a1 * r:=by rw [e0,Int.mul_zero];exact y1.1
    repeat' first|refine Kf ?_|intro _|constructor
    rw [decide_eq_false hsp]
    exact Post.cut _ _ ⟨rfl,rfl⟩ Zad Zaa
 rintro _ _ ⟨rfl,rfl⟩
 repeat' first|refine Kz ?_|intro _
 refine Zax 4 ?_
 repeat' first|refine Kz ?_|intro _
 refine Tri.mid (fun e' As'=>e'=[(5,.pointer (some ⟨b5,0,none⟩)),(7,.pointer (some ⟨b7,0,none⟩)),(9,.int .i64 s),(10,.int .i64 r),(11,.int .i64 1),(40,.int .i64 1),(43,.int .i64 0),(61,.bool false)]∧As'=.cl b7 [.int .i64 q1,.int .i64 q2,.int .i64 q3,.int .i64 q4] 41::.cl b5 [.int .i64 a1,.int .i64 a2,.int .i64 a3,.int .i64 a4] 41::As) ?_ ?_
 ·by_cases hle:a2≤a1
  ·refine Zal [.cl b7 [.int .i64 q1,.int .i64 q2,.int .i64 q3,.int .i64 q4] 41,.cl b5 [.int .i64 a1,.int .i64 a2,.int .i64 a3,.int .i64 a4] 41] [] (.take 0 (.take 1 (.take 2 (.take 3 (.take 4 (.take 5 (.take 6 (.take 7 (.take 8 (.take 9 (.take 10 (.take 11 (.take 12 (.take 13 (.take 14 (.take 15 (.done))))))))))))))))) ?_
   repeat' first|refine Kf ?_|intro _|constructor
   rw [decide_eq_false (show ¬ q1 < q2 by omega)]
   exact Post.cut _ _ ⟨rfl,rfl⟩ Zad Zaa
  ·refine Zal [.cl b7 [.int .i64 q1,.int .i64 q2,.int .i64 q3,.int .i64 q4] 41,.cl b5 [.int .i64 a1,.int .i64 a2,.int .i64 a3,.int .i64 a4] 41] [] (.take 0 (.take 1 (.take 2 (.take 3 (.take 4 (.take 5 (.take 6 (.take 7 (.take 8 (.take 9 (.take 10 (.take 11 (.take 12 (.take 13 (.take 14 (.take 15 (.done))))))))))))))))) ?_
   repeat' first|refine Kf ?_|intro _|constructor
   exact Post.cut _ _ ⟨rfl,rfl⟩ Zad Zaa
 rintro _ _ ⟨rfl,rfl⟩
 repeat' first|refine Kz ?_|intro _
 refine Tri.mid (fun e' As'=>e'=[(5,.pointer (some ⟨b5,0,none⟩)),(7,.pointer (some ⟨b7,0,none⟩)),(9,.int .i64 s),(10,.int .i64 r),(11,.int .i64 1),(40,.int .i64 1),(43,.int .i64 1),(61,.bool false)]∧As'=.cl b7 [.int .i64 q1,.int .i64 q2,.int .i64 q3,.int .i64 q4] 41::.cl b5 [.int .i64 a1,.int .i64 a2,.int .i64 a3,.int .i64 a4] 41::As) ?_ ?_
 ·refine Zal [.cl b7 [.int .i64 q1,.int .i64 q2,.int .i64 q3,.int .i64 q4] 41,.cl b5 [.int .i64 a1,.int .i64 a2,.int .i64 a3,.int .i64 a4] 41] [] (.take 0 (.take 1 (.take 2 (.take 3 (.take 4 (.take 5 (.take 6 (.take 7 (.take 8 (.take 9 (.take 10 (.take 11 (.take 12 (.take 13 (.take 14 (.take 15 (.done))))))))))))))))) ?_
  repeat' first|refine Kf ?_|intro _|constructor
  rw [decide_eq_false (show ¬ q2 < q2 by omega)]
  exact Post.cut _ _ ⟨rfl,rfl⟩ Zad Zaa
 rintro _ _ ⟨rfl,rfl⟩
 repeat' first|refine Kz ?_|intro _
 refine Tri.mid (fun e' As'=>e'=[(5,.pointer (some ⟨b5,0,none⟩)),(7,.pointer (some ⟨b7,0,none⟩)),(9,.int .i64 s),(10,.int .i64 r),(11,.int .i64 1),(40,.int .i64 1),(43,.int .i64 2),(61,.bool false)]∧As'=.cl b7 [.int .i64 q1,.int .i64 q2,.int .i64 q3,.int .i64 q4] 41::.cl b5 [.int .i64 a1,.int .i64 a2,.int .i64 a3,.int .i64 a4] 41::As) ?_ ?_
 ·by_cases hle:a2≤a3
  ·refine Zal [.cl b7 [.int .i64 q1,.int .i64 q2,.int .i64 q3,.int .i64 q4] 41,.cl b5 [.int .i64 a1,.int .i64 a2,.int .i64 a3,.int .i64 a4] 41] [] (.take 0 (.take 1 (.take 2 (.take 3 (.take 4 (.take 5 (.take 6 (.take 7 (.take 8 (.take 9 (.take 10 (.take 11 (.take 12 (.take 13 (.take 14 (.take 15 (.done))))))))))))))))) ?_
   repeat' first|refine Kf ?_|intro _|constructor
   rw [decide_eq_false (show ¬ q3 < q2 by omega)]
   exact Post.cut _ _ ⟨rfl,rfl⟩ Zad Zaa
  ·refine Zal [.cl b7 [.int .i64 q1,.int .i64 q2,.int .i64 q3,.int .i64 q4] 41,.cl b5 [.int .i64 a1,.int .i64 a2,.int .i64 a3,.int .i64 a4] 41] [] (.take 0 (.take 1 (.take 2 (.take 3 (.take 4 (.take 5 (.take 6 (.take 7 (.take 8 (.take 9 (.take 10 (.take 11 (.take 12 (.take 13 (.take 14 (.take 15 (.done))))))))))))))))) ?_
   repeat' first|refine Kf ?_|intro _|constructor
   exact Post.cut _ _ ⟨rfl,rfl⟩ Zad Zaa
 rintro _ _ ⟨rfl,rfl⟩
 repeat' first|refine Kz ?_|intro _
 refine Tri.mid (fun e' As'=>e'=[(5,.pointer (some ⟨b5,0,none⟩)),(7,.pointer (some ⟨b7,0,none⟩)),(9,.int .i64 s),(10,.int .i64 r),(11,.int .i64 1),(40,.int .i64 1),(96,.bool false)]∧As'=.cl b7 [.int .i64 q1,.int .i64 q2,.int .i64 q3,.int .i64 q4] 41::.cl b5 [.int .i64 a1,.int .i64 a2,.int .i64 a3,.int .i64 a4] 41::As) ?_ ?_
 ·refine Zal [.cl b7 [.int .i64 q1,.int .i64 q2,.int .i64 q3,.int .i64 q4] 41,.cl b5 [.int .i64 a1,.int .i64 a2,.int .i64 a3,.int .i64 a4] 41] [] (.take 0 (.take 1 (.take 2 (.take 3 (.take 4 (.take 5 (.take 6 (.take 7 (.take 8 (.take 9 (.take 10 (.take 11 (.take 12 (.take 13 (.take 14 (.take 15 (.take 16 (.take 17 (.take 18 (.take 19 (.take 20 (.take 21 (.take 22 (.take 23 (.take 24 (.take 25 (.take 26 (.take 27 (.take 28 (.take 29 (.take 30 (.take 31 (.take 32 (.take 33 (.done))))))))))))))))))))))))))))))))))) ?_
  repeat' first|refine Kf ?_|intro _|constructor
  refine TT.take rfl rfl rfl (Zbf rfl rfl) ?_
  by_cases heq:q1=a1∧q2=a2∧q3=a3∧q4=a4
  ·rw [decide_eq_true heq]
   repeat' first|refine Kf ?_|intro _|constructor
   exact Post.cut _ _ ⟨rfl,rfl⟩ Zad Zaa
  ·rw [decide_eq_false heq]
   obtain ⟨f1,f2,f3⟩:=hfl heq
   have g1:=f2.1
   by_cases hsp:0 < s
   ·have g2:=f2.2 hsp
    repeat' first|refine Kf ?_|intro _|constructor
    exact Post.cut _ _ ⟨rfl,rfl⟩ Zad Zaa
   ·have e0:s=0:=by omega
    have g2:(q2+1) * s≤a2 * r:=by rw [e0,Int.mul_zero];exact y2.1
    repeat' first|refine Kf ?_|intro _|constructor
    rw [decide_eq_false hsp]
    exact Post.cut _ _ ⟨rfl,rfl⟩ Zad Zaa
 rintro _ _ ⟨rfl,rfl⟩
 repeat' first|refine Kz ?_|intro _
 refine Zax 4 ?_
 repeat' first|refine Kz ?_|intro _
 refine Tri.mid (fun e' As'=>e'=[(5,.pointer (some ⟨b5,0,none⟩)),(7,.pointer (some ⟨b7,0,none⟩)),(9,.int .i64 s),(10,.int .i64 r),(11,.int .i64 2),(40,.int .i64 2),(43,.int .i64 0),(61,.bool false)]∧As'=.cl b7 [.int .i64 q1,.int .i64 q2,.int .i64 q3,.int .i64 q4] 41::.cl b5 [.int .i64 a1,.int .i64 a2,.int .i64 a3,.int .i64 a4] 41::As) ?_ ?_
 ·by_cases hle:a3≤a1
  ·refine Zal [.cl b7 [.int .i64 q1,.int .i64 q2,.int .i64 q3,.int .i64 q4] 41,.cl b5 [.int .i64 a1,.int .i64 a2,.int .i64 a3,.int .i64 a4] 41] [] (.take 0 (.take 1 (.take 2 (.take 3 (.take 4 (.take 5 (.take 6 (.take 7 (.take 8 (.take 9 (.take 10 (.take 11 (.take 12 (.take 13 (.take 14 (.take 15 (.done))))))))))))))))) ?_
   repeat' first|refine Kf ?_|intro _|constructor
   rw [decide_eq_false (show ¬ q1 < q3 by omega)]
   exact Post.cut _ _ ⟨rfl,rfl⟩ Zad Zaa
  ·refine Zal [.cl b7 [.int .i64 q1,.int .i64 q2,.int .i64 q3,.int .i64 q4] 41,.cl b5 [.int .i64 a1,.int .i64 a2,.int .i64 a3,.int .i64 a4] 41] [] (.take 0 (.take 1 (.take 2 (.take 3 (.take 4 (.take 5 (.take 6 (.take 7 (.take 8 (.take 9 (.take 10 (.take 11 (.take 12 (.take 13 (.take 14 (.take 15 (.done))))))))))))))))) ?_
   repeat' first|refine Kf ?_|intro _|constructor
   exact Post.cut _ _ ⟨rfl,rfl⟩ Zad Zaa
 rintro _ _ ⟨rfl,rfl⟩
 repeat' first|refine Kz ?_|intro _
 refine Tri.mid (fun e' As'=>e'=[(5,.pointer (some ⟨b5,0,none⟩)),(7,.pointer (some ⟨b7,0,none⟩)),(9,.int .i64 s),(10,.int .i64 r),(11,.int .i64 2),(40,.int .i64 2),(43,.int .i64 1),(61,.bool false)]∧As'=.cl b7 [.int .i64 q1,.int .i64 q2,.int .i64 q3,.int .i64 q4] 41::.cl b5 [.int .i64 a1,.int .i64 a2,.int .i64 a3,.int .i64 a4] 41::As) ?_ ?_
 ·by_cases hle:a3≤a2
  ·refine Zal [.cl b7 [.int .i64 q1,.int .i64 q2,.int .i64 q3,.int .i64 q4] 41,.cl b5 [.int .i64 a1,.int .i64 a2,.int .i64 a3,.int .i64 a4] 41] [] (.take 0 (.take 1 (.take 2 (.take 3 (.take 4 (.take 5 (.take 6 (.take 7 (.take 8 (.take 9 (.take 10 (.take 11 (.take 12 (.take 13 (.take 14 (.take 15 (.done))))))))))))))))) ?_
   repeat' first|refine Kf ?_|intro _|constructor
   rw [decide_eq_false (show ¬ q2 < q3 by omega)]
   exact Post.cut _ _ ⟨rfl,rfl⟩ Zad Zaa
  ·refine Zal [.cl b7 [.int .i64 q1,.int .i64 q2,.int .i64 q3,.int .i64 q4] 41,.cl b5 [.int .i64 a1,.int .i64 a2,.int .i64 a3,.int .i64 a4] 41] [] (.take 0 (.take 1 (.take 2 (.take 3 (.take 4 (.take 5 (.take 6 (.take 7 (.take 8 (.take 9 (.take 10 (.take 11 (.take 12 (.take 13 (.take 14 (.take 15 (.done))))))))))))))))) ?_
   repeat' first|refine Kf ?_|intro _|constructor
   exact Post.cut _ _ ⟨rfl,rfl⟩ Zad Zaa
 rintro _ _ ⟨rfl,rfl⟩
 repeat' first|refine Kz ?_|intro _
 refine Tri.mid (fun e' As'=>e'=[(5,.pointer (some ⟨b5,0,none⟩)),(7,.pointer (some ⟨b7,0,none⟩)),(9,.int .i64 s),(10,.int .i64 r),(11,.int .i64 2),(40,.int .i64 2),(43,.int .i64 2),(61,.bool false)]∧As'=.cl b7 [.int .i64 q1,.int .i64 q2,.int .i64 q3,.int .i64 q4] 41::.cl b5 [.int .i64 a1,.int .i64 a2,.int .i64 a3,.int .i64 a4] 41::As) ?_ ?_
 ·refine Zal [.cl b7 [.int .i64 q1,.int .i64 q2,.int .i64 q3,.int .i64 q4] 41,.cl b5 [.int .i64 a1,.int .i64 a2,.int .i64 a3,.int .i64 a4] 41] [] (.take 0 (.take 1 (.take 2 (.take 3 (.take 4 (.take 5 (.take 6 (.take 7 (.take 8 (.take 9 (.take 10 (.take 11 (.take 12 (.take 13 (.take 14 (.take 15 (.done))))))))))))))))) ?_
  repeat' first|refine Kf ?_|intro _|constructor
  rw [decide_eq_false (show ¬ q3 < q3 by omega)]
  exact Post.cut _ _ ⟨rfl,rfl⟩ Zad Zaa
 rintro _ _ ⟨rfl,rfl⟩
 repeat' first|refine Kz ?_|intro _
 refine Tri.mid (fun e' As'=>e'=[(5,.pointer (some ⟨b5,0,none⟩)),(7,.pointer (some ⟨b7,0,none⟩)),(9,.int .i64 s),(10,.int .i64 r),(11,.int .i64 2),(40,.int .i64 2),(96,.bool false)]∧As'=.cl b7 [.int .i64 q1,.int .i64 q2,.int .i64 q3,.int .i64 q4] 41::.cl b5 [.int .i64 a1,.int .i64 a2,.int .i64 a3,.int .i64 a4] 41::As) ?_ ?_
 ·refine Zal [.cl b7 [.int .i64 q1,.int .i64 q2,.int .i64 q3,.int .i64 q4] 41,.cl b5 [.int .i64 a1,.int .i64 a2,.int .i64 a3,.int .i64 a4] 41] [] (.take 0 (.take 1 (.take 2 (.take 3 (.take 4 (.take 5 (.take 6 (.take 7 (.take 8 (.take 9 (.take 10 (.take 11 (.take 12 (.take 13 (.take 14 (.take 15 (.take 16 (.take 17 (.take 18 (.take 19 (.take 20 (.take 21 (.take 22 (.take 23 (.take 24 (.take 25 (.take 26 (.take 27 (.take 28 (.take 29 (.take 30 (.take 31 (.take 32 (.take 33 (.done))))))))))))))))))))))))))))))))))) ?_
  repeat' first|refine Kf ?_|intro _|constructor
  refine TT.take rfl rfl rfl (Zbf rfl rfl) ?_
  by_cases heq:q1=a1∧q2=a2∧q3=a3∧q4=a4
  ·rw [decide_eq_true heq]
   repeat' first|refine Kf ?_|intro _|constructor
   exact Post.cut _ _ ⟨rfl,rfl⟩ Zad Zaa
  ·rw [decide_eq_false heq]
   obtain ⟨f1,f2,f3⟩:=hfl heq
   have g1:=f3.1
   by_cases hsp:0 < s
   ·have g2:=f3.2 hsp
    repeat' first|refine Kf ?_|intro _|constructor
    exact Post.cut _ _ ⟨rfl,rfl⟩ Zad Zaa
   ·have e0:s=0:=by omega
    have g2:(q3+1) * s≤a3 * r:=by rw [e0,Int.mul_zero];exact y3.1
    repeat' first|refine Kf ?_|intro _|constructor
    rw [decide_eq_false hsp]
    exact Post.cut _ _ ⟨rfl,rfl⟩ Zad Zaa
 rintro _ _ ⟨rfl,rfl⟩
 repeat' first|refine Kz ?_|intro _
 (refine Zac ?_)
 exact ⟨_,rfl,Ents.refl _⟩
end Go.Proofs.YtoednejlfbfciaaGreatDoor
