/- Walks: shells: the drafted grid. -/
import Derived.Test.YtbfgldlfciimiaaGreatDoorSh1
import Derived.Test.YtbfgldlfciimiaaGreatDoorSxB
import Derived.Test.YtbfgldlfciimiaaGreatDoorSw3
import Derived.Test.YtbfgldlfciimiaaGreatDoorSw7
set_option maxHeartbeats 1000000
namespace Go.Sx
open Go
structure D37A where
 sz:Nat
 tu:Nat
 u0:Nat
 u1:Nat
 u2:Nat
 v0:Nat
 v1:Nat
 v2:Nat
def D37A.ok (d:D37A):Prop:=d.sz < 256∧d.tu < 256∧d.u0 < 65536∧d.u1 < 65536∧d.u2 < 65536∧d.v0 < 256∧d.v1 < 256∧d.v2 < 256
def D37A.cells (d:D37A):List Value:=[.int .u8 (d.sz:Int),.int .u8 (d.tu:Int),.int .u16 (d.u0:Int),.int .u16 (d.u1:Int),.int .u16 (d.u2:Int),.int .u8 (d.v0:Int),.int .u8 (d.v1:Int),.int .u8 (d.v2:Int)]
def D37A.d (d:D37A):D37:=⟨d.tu % 6,1000+d.u0 % 9000,1000+d.u1 % 9000,1000+d.u2 % 9000,d.v0,d.v1,d.v2⟩
def D37A.a (d:D37A):Nat:=2+d.sz % 4
def D37A.b (d:D37A):Nat:=2+d.sz / 4 % 3
def D37A.c (d:D37A):Nat:=2+d.sz / 12 % 3
theorem D37A.dok {d:D37A} (h:d.ok):d.d.ok:=by
 obtain ⟨_,_,_,_,_,h5,h6,h7⟩:=h
 unfold D37.ok D37A.d
 dsimp only
 omega
theorem D37A.szOk (d:D37A):Sz d.a d.b d.c:=by
 constructor<;>simp only [D37A.a,D37A.b,D37A.c]<;>omega
def nodeD (d:D37) (x:V3):List Int:=[(d.out x).x,(d.out x).y,(d.out x).z]
def gridP (d:D37) (b c n:Nat):List Int:=(List.range n).flatMap fun p=>nodeD d (cellN b c p)
def gridD (d:D37) (a b c:Nat):List Int:=gridP d b c (a * b * c)
theorem Zjj {d:D37} {b c n:Nat}:(gridP d b c n).length=3 * n:=by
 induction n with
 | zero=>rfl
 | succ n ih =>
  unfold gridP at ih ⊢
  rw [List.range_succ,List.flatMap_append,List.length_append,ih]
  simp [nodeD];omega
theorem Zo9 {d:D37} {b c n:Nat}:gridP d b c (n+1)=gridP d b c n++nodeD d (cellN b c n):=by
 unfold gridP
 rw [List.range_succ,List.flatMap_append]
 simp
end Go.Sx
namespace Go.Proofs.YtbfgldlfciimiaaGreatDoor
open Go Go.Sx
variable {w0:World} {As:List Ent}
def GridR (As:List Ent) (a b c:Nat) (D:List Int) (u:Value) (Bs:List Ent):Prop:=∃ sv dv,u=.agg #[sv,.int .i64 3,dv]∧Bs=.ow (cI .i64) 3 dv D::.ow (cI .i64) 3 sv [(a:Int),(b:Int),(c:Int)]::As
set_option maxRecDepth 100000 in
set_option maxHeartbeats 8000000 in
theorem Z3r (d:D37A) (hd:d.ok):CallsS Tryz.prog w0 5 [.agg d.cells.toArray] As (GridR As d.a d.b d.c (gridD d.d d.a d.b d.c)):=by
 have hdo:=d.dok hd
 have hz:=d.szOk
 have ea:(2:Int)+(d.sz:Int) % 4=(d.a:Int):=by unfold D37A.a;omega
 have eb:(2:Int)+(d.sz:Int) / 4 % 3=(d.b:Int):=by unfold D37A.b;omega
 have ec:(2:Int)+(d.sz:Int) / 12 % 3=(d.c:Int):=by unfold D37A.c;omega
 have et:(d.tu:Int) % 6=((d.tu % 6:Nat):Int):=by omega
 have ht:d.d.t=d.tu % 6:=rfl
 have e0:(1000:Int)+(d.u0:Int) % 9000=(d.d.s0:Int):=by simp only [D37A.d];omega
 have e1:(1000:Int)+(d.u1:Int) % 9000=(d.d.s1:Int):=by simp only [D37A.d];omega
 have e2:(1000:Int)+(d.u2:Int) % 9000=(d.d.s2:Int):=by simp only [D37A.d];omega
 have f0:d.v0=d.d.h0:=rfl
 have f1:d.v1=d.d.h1:=rfl
 have f2:d.v2=d.d.h2:=rfl
 generalize d.a=a at hz ea ⊢
 generalize d.b=b at hz eb ⊢
 generalize d.c=c at hz ec ⊢
 generalize d.d=q at hdo ht e0 e1 e2 f0 f1 f2 ⊢
 obtain ⟨sz,tu,u0,u1,u2,v0,v1,v2⟩:=d
 obtain ⟨h0,h1,h2,h3,h4,h5,h6,h7⟩:=hd
 dsimp only at *
 subst f0 f1 f2
 refine Zab Tryz.func5 rfl Tryz.ntmps5 rfl ?_
 simp only [D37A.cells]
 repeat' first|refine Kz ?_|intro _
 rename_i b1 b2 b4
 rw [ea,eb,ec,et]
 have ht6:Nat.blt (tu % 6) 6=true:=by rw [Nat.blt_eq];omega
 obtain ⟨o0,o1,o2,ho0,ho1,ho2,hT,hO⟩:∃ o0 o1 o2:Nat,ordT q.t 0=o0∧ordT q.t 1=o1∧ordT q.t 2=o2∧(([.int .i64 0,.int .i64 1,.int .i64 2,.int .i64 1,.int .i64 0,.int .i64 2,.int .i64 0,.int .i64 2,.int .i64 1,.int .i64 2,.int .i64 1,.int .i64 0,.int .i64 1,.int .i64 2,.int .i64 0,.int .i64 2,.int .i64 0,.int .i64 1]:List Value).drop (tu % 6 * 3)).take 3=[.int .i64 (o0:Int),.int .i64 (o1:Int),.int .i64 (o2:Int)]∧((o0=0∧o1=1∧o2=2)∨(o0=1∧o1=0∧o2=2)∨(o0=0∧o1=2∧o2=1)∨(o0=2∧o1=1∧o2=0)∨(o0=1∧o1=2∧o2=0)∨(o0=2∧o1=0∧o2=1)):=by
  rw [ht]
  have h6:tu % 6=0∨tu % 6=1∨tu % 6=2∨tu % 6=3∨tu % 6=4∨tu % 6=5:=by omega
  rcases h6 with h|h|h|h|h|h<;>rw [h]<;>exact ⟨_,_,_,rfl,rfl,rfl,rfl,by decide⟩
 refine TL.f rfl rfl (Znx rfl rfl rfl ht6 hT) ?_
 repeat' first|refine Kz ?_|intro _
 rename_i b5 bs
 refine TL.f rfl rfl (ExF.build (vs:=[.slice (some ⟨bs,0,none⟩) 3 3,.int .i64 3]) (l:=[.slice (some ⟨bs,0,none⟩) 3 3,.int .i64 3,.slice none 0 0]) rfl (fun w=>by kernel_rfl)) ?_
 refine TL.ents (Zbz (cI .i64) [(a:Int),(b:Int),(c:Int)] rfl (n:=3) (cap:=3) rfl rfl) ?_
 refine TL.ents (Za3 (T:=3) (cI .i64)) ?_
 repeat' first|refine Kz ?_|intro _
 rename_i b6
 obtain ⟨a2,a5,bb2,bb4,c2,c4⟩:=hz
 obtain ⟨_,⟨s01,s02⟩,⟨s11,s12⟩,⟨s21,s22⟩,_,_,_⟩:=hdo
 clear ea eb ec et hT ht6
 refine Tri.loop (ι:=Nat × Value) (fun s=>s.1≤a) (fun s=>a - s.1) (fun s=>[(1,.pointer (some ⟨b1,0,none⟩)),(2,.pointer (some ⟨b2,0,none⟩)),(4,.pointer (some ⟨b4,0,none⟩)),(5,.pointer (some ⟨b5,0,none⟩)),(6,.pointer (some ⟨b6,0,none⟩)),(7,.int .i64 (s.1:Int))])
  (fun s=>.cl b6 [.slice (some ⟨bs,0,none⟩) 3 3,.int .i64 3,s.2] 29::.ow (cI .i64) 3 s.2 (gridP q b c (s.1 * b * c))::.ow (cI .i64) 3 (.slice (some ⟨bs,0,none⟩) 3 3) [(a:Int),(b:Int),(c:Int)]::.cl b5 [.int .i64 (o0:Int),.int .i64 (o1:Int),.int .i64 (o2:Int)] 39::.cl b4 [.int .i64 (a:Int),.int .i64 (b:Int),.int .i64 (c:Int)] 39::.cl b2 [.slice none 0 0,.int .i64 0,.slice none 0 0] 29::.cl b1 [.int .u8 (sz:Int),.int .u8 (tu:Int),.int .u16 (u0:Int),.int .u16 (u1:Int),.int .u16 (u2:Int),.int .u8 (q.h0:Int),.int .u8 (q.h1:Int),.int .u8 (q.h2:Int)] 26::As) (0,.slice none 0 0) (Nat.zero_le _) Zad (by simp only [Nat.zero_mul,show gridP q b c 0=[] from rfl];(exact Zaa)) ?_
 rintro ⟨i,dv⟩ hi
 simp only at hi
 show Tri _ _ _ _ [(1,_),(2,_),(4,_),(5,_),(6,_),(7,.int .i64 (i:Int))] (.cl b6 [_,_,dv] _::.ow _ _ dv _::_) _
 repeat' first|refine Kz ?_|intro _
 (refine Kx (fun hc=>?_) fun hc=>?_)
 ·repeat' first|refine Kz ?_|intro _
  refine Tri.loop (ι:=Nat × Value) (fun s=>s.1≤b) (fun s=>b - s.1) (fun s=>[(1,.pointer (some ⟨b1,0,none⟩)),(2,.pointer (some ⟨b2,0,none⟩)),(4,.pointer (some ⟨b4,0,none⟩)),(5,.pointer (some ⟨b5,0,none⟩)),(6,.pointer (some ⟨b6,0,none⟩)),(7,.int .i64 (i:Int)),(8,.int .i64 (s.1:Int))])
   (fun s=>.cl b6 [.slice (some ⟨bs,0,none⟩) 3 3,.int .i64 3,s.2] 29::.ow (cI .i64) 3 s.2 (gridP q b c ((i * b+s.1) * c))::.ow (cI .i64) 3 (.slice (some ⟨bs,0,none⟩) 3 3) [(a:Int),(b:Int),(c:Int)]::.cl b5 [.int .i64 (o0:Int),.int .i64 (o1:Int),.int .i64 (o2:Int)] 39::.cl b4 [.int .i64 (a:Int),.int .i64 (b:Int),.int .i64 (c:Int)] 39::.cl b2 [.slice none 0 0,.int .i64 0,.slice none 0 0] 29::.cl b1 [.int .u8 (sz:Int),.int .u8 (tu:Int),.int .u16 (u0:Int),.int .u16 (u1:Int),.int .u16 (u2:Int),.int .u8 (q.h0:Int),.int .u8 (q.h1:Int),.int .u8 (q.h2:Int)] 26::As) (0,dv) (Nat.zero_le _) Zad (by simp only [Nat.add_zero];(exact Zaa)) ?_
  rintro ⟨j,dv⟩ hj
  simp only at hj
  show Tri _ _ _ _ [(1,_),(2,_),(4,_),(5,_),(6,_),(7,_),(8,.int .i64 (j:Int))] (.cl b6 [_,_,dv] _::.ow _ _ dv _::_) _
  repeat' first|refine Kz ?_|intro _
  (refine Kx (fun hc=>?_) fun hc=>?_)
  ·repeat' first|refine Kz ?_|intro _
   refine Tri.loop (ι:=Nat × Value) (fun s=>s.1≤c) (fun s=>c - s.1) (fun s=>[(1,.pointer (some ⟨b1,0,none⟩)),(2,.pointer (some ⟨b2,0,none⟩)),(4,.pointer (some ⟨b4,0,none⟩)),(5,.pointer (some ⟨b5,0,none⟩)),(6,.pointer (some ⟨b6,0,none⟩)),(7,.int .i64 (i:Int)),(8,.int .i64 (j:Int)),(9,.int .i64 (s.1:Int))])
    (fun s=>.cl b6 [.slice (some ⟨bs,0,none⟩) 3 3,.int .i64 3,s.2] 29::.ow (cI .i64) 3 s.2 (gridP q b c ((i * b+j) * c+s.1))::.ow (cI .i64) 3 (.slice (some ⟨bs,0,none⟩) 3 3) [(a:Int),(b:Int),(c:Int)]::.cl b5 [.int .i64 (o0:Int),.int .i64 (o1:Int),.int .i64 (o2:Int)] 39::.cl b4 [.int .i64 (a:Int),.int .i64 (b:Int),.int .i64 (c:Int)] 39::.cl b2 [.slice none 0 0,.int .i64 0,.slice none 0 0] 29::.cl b1 [.int .u8 (sz:Int),.int .u8 (tu:Int),.int .u16 (u0:Int),.int .u16 (u1:Int),.int .u16 (u2:Int),.int .u8 (q.h0:Int),.int .u8 (q.h1:Int),.int .u8 (q.h2:Int)] 26::As) (0,dv) (Nat.zero_le _) Zad (by simp only [Nat.add_zero];(exact Zaa)) ?_
   rintro ⟨k,dv⟩ hk
   simp only at hk
   show Tri _ _ _ _ [(1,_),(2,_),(4,_),(5,_),(6,_),(7,_),(8,_),(9,.int .i64 (k:Int))] (.cl b6 [_,_,dv] _::.ow _ _ dv _::_) _
   repeat' first|refine Kz ?_|intro _
   (refine Kx (fun hc=>?_) fun hc=>?_)
   ·have hgs:gridP q b c ((i * b+j) * c+k+1)=gridP q b c ((i * b+j) * c+k)++nodeD q ⟨i,j,k⟩:=by rw [Zo9,Zrh (by omega) (by omega)]
    have hgl:(gridP q b c ((i * b+j) * c+k)).length≤300:=by
     have hp:=Zhl (a:=a) (b:=b) (c:=c) (i:=i) (j:=j) (k:=k) (by omega) (by omega) (by omega)
     have h1:=Nat.mul_le_mul a5 bb4
     have h2:=Nat.mul_le_mul h1 c4
     rw [Zjj];omega
    generalize gridP q b c ((i * b+j) * c+k)=Y at hgs hgl ⊢
    have pb:∀ s x:Nat,s < 10000→x≤5→0≤(s:Int) * (x:Int)∧(s:Int) * (x:Int)≤50000:=fun s x h1 h2=>by
     have:=Nat.mul_le_mul (Nat.le_of_lt h1) h2
     omega
    have qb:∀ s x:Nat,s < 256→x≤5→0≤8 * (s:Int) * (x:Int)∧8 * (s:Int) * (x:Int)≤12000:=fun s x h1 h2=>by
     have:=Nat.mul_le_mul (Nat.le_of_lt h1) h2
     rw [Int.mul_assoc]
     omega
    have p0i:=pb q.s0 i (by omega) (by omega)
    have p0j:=pb q.s0 j (by omega) (by omega)
    have p0k:=pb q.s0 k (by omega) (by omega)
    have p1i:=pb q.s1 i (by omega) (by omega)
    have p1j:=pb q.s1 j (by omega) (by omega)
    have p1k:=pb q.s1 k (by omega) (by omega)
    have p2i:=pb q.s2 i (by omega) (by omega)
    have p2j:=pb q.s2 j (by omega) (by omega)
    have p2k:=pb q.s2 k (by omega) (by omega)
    have q0i:=qb q.h0 i (by omega) (by omega)
    have q0j:=qb q.h0 j (by omega) (by omega)
    have q0k:=qb q.h0 k (by omega) (by omega)
    have q1i:=qb q.h1 i (by omega) (by omega)
    have q1j:=qb q.h1 j (by omega) (by omega)
    have q1k:=qb q.h1 k (by omega) (by omega)
    have q2i:=qb q.h2 i (by omega) (by omega)
    have q2j:=qb q.h2 j (by omega) (by omega)
    have q2k:=qb q.h2 k (by omega) (by omega)
    clear pb qb
    rcases hO with ⟨rfl,rfl,rfl⟩|⟨rfl,rfl,rfl⟩|⟨rfl,rfl,rfl⟩|⟨rfl,rfl,rfl⟩|⟨rfl,rfl,rfl⟩|⟨rfl,rfl,rfl⟩
    ·have hn:nodeD q ⟨i,j,k⟩=[8000+(q.s0:Int) * (i:Int)+8 * (q.h0:Int) * (j:Int),8000+(q.s1:Int) * (j:Int)+8 * (q.h1:Int) * (k:Int),8000+(q.s2:Int) * (k:Int)+8 * (q.h2:Int) * (i:Int)]:=by simp only [nodeD,D37.out,ho0,ho1,ho2];rfl
     rw [hn] at hgs
     repeat' first|refine Kz ?_|intro _
     rename_i b10
     refine Zao 4 ?_
     repeat' first|refine Kz ?_|intro _
     rw [e0]
     refine Zag (.cl b10 [.int .i64 (i:Int),.int .i64 (j:Int),.int .i64 (k:Int)] 39::.cl b6 [.slice (some ⟨bs,0,none⟩) 3 3,.int .i64 3,dv] 29::.cl b5 [.int .i64 ((0:Nat):Int),.int .i64 ((1:Nat):Int),.int .i64 ((2:Nat):Int)] 39::.cl b1 [.int .u8 (sz:Int),.int .u8 (tu:Int),.int .u16 (u0:Int),.int .u16 (u1:Int),.int .u16 (u2:Int),.int .u8 (q.h0:Int),.int .u8 (q.h1:Int),.int .u8 (q.h2:Int)] 26::[]) [] (.take 0 (.take 1 (.take 2 (.take 3 (.take 4 (.take 5 (.take 6 (.take 7 (.take 8 (.take 9 (.take 10 (.take 11 (.take 12 (.take 13 (.take 14 (.take 15 (.take 16 (.take 17 (.take 18 (.take 19 (.take 20 (.take 21 (.take 22 (.take 23 (.take 24 (.all [(25,.all [(26,.take 27 (.all [(28,.done)]))])])))))))))))))))))))))))))) ?_
     repeat' first|refine Kf ?_|intro _|constructor
     rename_i v1
     rw [e1]
     refine Zag (.cl b10 [.int .i64 (i:Int),.int .i64 (j:Int),.int .i64 (k:Int)] 39::.cl b6 [.slice (some ⟨bs,0,none⟩) 3 3,.int .i64 3,v1] 29::.cl b5 [.int .i64 ((0:Nat):Int),.int .i64 ((1:Nat):Int),.int .i64 ((2:Nat):Int)] 39::.cl b1 [.int .u8 (sz:Int),.int .u8 (tu:Int),.int .u16 (u0:Int),.int .u16 (u1:Int),.int .u16 (u2:Int),.int .u8 (q.h0:Int),.int .u8 (q.h1:Int),.int .u8 (q.h2:Int)] 26::[]) [] (.take 0 (.take 1 (.take 2 (.take 3 (.take 4 (.take 5 (.take 6 (.take 7 (.take 8 (.take 9 (.take 10 (.take 11 (.take 12 (.take 13 (.take 14 (.take 15 (.take 16 (.take 17 (.take 18 (.take 19 (.take 20 (.take 21 (.take 22 (.take 23 (.take 24 (.all [(25,.all [(26,.take 27 (.all [(28,.done)]))])])))))))))))))))))))))))))) ?_
     repeat' first|refine Kf ?_|intro _|constructor
     rename_i v2
     rw [e2]
     refine Zag (.cl b10 [.int .i64 (i:Int),.int .i64 (j:Int),.int .i64 (k:Int)] 39::.cl b6 [.slice (some ⟨bs,0,none⟩) 3 3,.int .i64 3,v2] 29::.cl b5 [.int .i64 ((0:Nat):Int),.int .i64 ((1:Nat):Int),.int .i64 ((2:Nat):Int)] 39::.cl b1 [.int .u8 (sz:Int),.int .u8 (tu:Int),.int .u16 (u0:Int),.int .u16 (u1:Int),.int .u16 (u2:Int),.int .u8 (q.h0:Int),.int .u8 (q.h1:Int),.int .u8 (q.h2:Int)] 26::[]) [] (.take 0 (.take 1 (.take 2 (.take 3 (.take 4 (.take 5 (.take 6 (.take 7 (.take 8 (.take 9 (.take 10 (.take 11 (.take 12 (.take 13 (.take 14 (.take 15 (.take 16 (.take 17 (.take 18 (.take 19 (.take 20 (.take 21 (.take 22 (.take 23 (.take 24 (.all [(25,.all [(26,.take 27 (.all [(28,.done)]))])])))))))))))))))))))))))))) ?_
     repeat' first|refine Kf ?_|intro _|constructor
     rename_i v3
     refine Post.round (k+1,v3) (by simp only;omega) (by simp only;omega) Zad ?_
     simp only [← Nat.add_assoc]
     rw [hgs]
     simp only [List.append_assoc,List.cons_append,List.nil_append]
     (exact Zaa)
    ·have hn:nodeD q ⟨i,j,k⟩=[8000+(q.s0:Int) * (j:Int)+8 * (q.h0:Int) * (i:Int),8000+(q.s1:Int) * (i:Int)+8 * (q.h1:Int) * (k:Int),8000+(q.s2:Int) * (k:Int)+8 * (q.h2:Int) * (j:Int)]:=by simp only [nodeD,D37.out,ho0,ho1,ho2];rfl
     rw [hn] at hgs
     repeat' first|refine Kz ?_|intro _
     rename_i b10
     refine Zao 4 ?_
     repeat' first|refine Kz ?_|intro _
     rw [e0]
     refine Zag (.cl b10 [.int .i64 (i:Int),.int .i64 (j:Int),.int .i64 (k:Int)] 39::.cl b6 [.slice (some ⟨bs,0,none⟩) 3 3,.int .i64 3,dv] 29::.cl b5 [.int .i64 ((1:Nat):Int),.int .i64 ((0:Nat):Int),.int .i64 ((2:Nat):Int)] 39::.cl b1 [.int .u8 (sz:Int),.int .u8 (tu:Int),.int .u16 (u0:Int),.int .u16 (u1:Int),.int .u16 (u2:Int),.int .u8 (q.h0:Int),.int .u8 (q.h1:Int),.int .u8 (q.h2:Int)] 26::[]) [] (.take 0 (.take 1 (.take 2 (.take 3 (.take 4 (.take 5 (.take 6 (.take 7 (.take 8 (.take 9 (.take 10 (.take 11 (.take 12 (.take 13 (.take 14 (.take 15 (.take 16 (.take 17 (.take 18 (.take 19 (.take 20 (.take 21 (.take 22 (.take 23 (.take 24 (.all [(25,.all [(26,.take 27 (.all [(28,.done)]))])])))))))))))))))))))))))))) ?_
     repeat' first|refine Kf ?_|intro _|constructor
     rename_i v1
     rw [e1]
     refine Zag (.cl b10 [.int .i64 (i:Int),.int .i64 (j:Int),.int .i64 (k:Int)] 39::.cl b6 [.slice (some ⟨bs,0,none⟩) 3 3,.int .i64 3,v1] 29::.cl b5 [.int .i64 ((1:Nat):Int),.int .i64 ((0:Nat):Int),.int .i64 ((2:Nat):Int)] 39::.cl b1 [.int .u8 (sz:Int),.int .u8 (tu:Int),.int .u16 (u0:Int),.int .u16 (u1:Int),.int .u16 (u2:Int),.int .u8 (q.h0:Int),.int .u8 (q.h1:Int),.int .u8 (q.h2:Int)] 26::[]) [] (.take 0 (.take 1 (.take 2 (.take 3 (.take 4 (.take 5 (.take 6 (.take 7 (.take 8 (.take 9 (.take 10 (.take 11 (.take 12 (.take 13 (.take 14 (.take 15 (.take 16 (.take 17 (.take 18 (.take 19 (.take 20 (.take 21 (.take 22 (.take 23 (.take 24 (.all [(25,.all [(26,.take 27 (.all [(28,.done)]))])])))))))))))))))))))))))))) ?_
     repeat' first|refine Kf ?_|intro _|constructor
     rename_i v2
     rw [e2]
     refine Zag (.cl b10 [.int .i64 (i:Int),.int .i64 (j:Int),.int .i64 (k:Int)] 39::.cl b6 [.slice (some ⟨bs,0,none⟩) 3 3,.int .i64 3,v2] 29::.cl b5 [.int .i64 ((1:Nat):Int),.int .i64 ((0:Nat):Int),.int .i64 ((2:Nat):Int)] 39::.cl b1 [.int .u8 (sz:Int),.int .u8 (tu:Int),.int .u16 (u0:Int),.int .u16 (u1:Int),.int .u16 (u2:Int),.int .u8 (q.h0:Int),.int .u8 (q.h1:Int),.int .u8 (q.h2:Int)] 26::[]) [] (.take 0 (.take 1 (.take 2 (.take 3 (.take 4 (.take 5 (.take 6 (.take 7 (.take 8 (.take 9 (.take 10 (.take 11 (.take 12 (.take 13 (.take 14 (.take 15 (.take 16 (.take 17 (.take 18 (.take 19 (.take 20 (.take 21 (.take 22 (.take 23 (.take 24 (.all [(25,.all [(26,.take 27 (.all [(28,.done)]))])])))))))))))))))))))))))))) ?_
     repeat' first|refine Kf ?_|intro _|constructor
     rename_i v3
     refine Post.round (k+1,v3) (by simp only;omega) (by simp only;omega) Zad ?_
     simp only [← Nat.add_assoc]
     rw [hgs]
     simp only [List.append_assoc,List.cons_append,List.nil_append]
     (exact Zaa)
    ·have hn:nodeD q ⟨i,j,k⟩=[8000+(q.s0:Int) * (i:Int)+8 * (q.h0:Int) * (k:Int),8000+(q.s1:Int) * (k:Int)+8 * (q.h1:Int) * (j:Int),8000+(q.s2:Int) * (j:Int)+8 * (q.h2:Int) * (i:Int)]:=by simp only [nodeD,D37.out,ho0,ho1,ho2];rfl
     rw [hn] at hgs
     repeat' first|refine Kz ?_|intro _
     rename_i b10
     refine Zao 4 ?_
     repeat' first|refine Kz ?_|intro _
     rw [e0]
     refine Zag (.cl b10 [.int .i64 (i:Int),.int .i64 (j:Int),.int .i64 (k:Int)] 39::.cl b6 [.slice (some ⟨bs,0,none⟩) 3 3,.int .i64 3,dv] 29::.cl b5 [.int .i64 ((0:Nat):Int),.int .i64 ((2:Nat):Int),.int .i64 ((1:Nat):Int)] 39::.cl b1 [.int .u8 (sz:Int),.int .u8 (tu:Int),.int .u16 (u0:Int),.int .u16 (u1:Int),.int .u16 (u2:Int),.int .u8 (q.h0:Int),.int .u8 (q.h1:Int),.int .u8 (q.h2:Int)] 26::[]) [] (.take 0 (.take 1 (.take 2 (.take 3 (.take 4 (.take 5 (.take 6 (.take 7 (.take 8 (.take 9 (.take 10 (.take 11 (.take 12 (.take 13 (.take 14 (.take 15 (.take 16 (.take 17 (.take 18 (.take 19 (.take 20 (.take 21 (.take 22 (.take 23 (.take 24 (.all [(25,.all [(26,.take 27 (.all [(28,.done)]))])])))))))))))))))))))))))))) ?_
     repeat' first|refine Kf ?_|intro _|constructor
     rename_i v1
     rw [e1]
     refine Zag (.cl b10 [.int .i64 (i:Int),.int .i64 (j:Int),.int .i64 (k:Int)] 39::.cl b6 [.slice (some ⟨bs,0,none⟩) 3 3,.int .i64 3,v1] 29::.cl b5 [.int .i64 ((0:Nat):Int),.int .i64 ((2:Nat):Int),.int .i64 ((1:Nat):Int)] 39::.cl b1 [.int .u8 (sz:Int),.int .u8 (tu:Int),.int .u16 (u0:Int),.int .u16 (u1:Int),.int .u16 (u2:Int),.int .u8 (q.h0:Int),.int .u8 (q.h1:Int),.int .u8 (q.h2:Int)] 26::[]) [] (.take 0 (.take 1 (.take 2 (.take 3 (.take 4 (.take 5 (.take 6 (.take 7 (.take 8 (.take 9 (.take 10 (.take 11 (.take 12 (.take 13 (.take 14 (.take 15 (.take 16 (.take 17 (.take 18 (.take 19 (.take 20 (.take 21 (.take 22 (.take 23 (.take 24 (.all [(25,.all [(26,.take 27 (.all [(28,.done)]))])])))))))))))))))))))))))))) ?_
     repeat' first|refine Kf ?_|intro _|constructor
     rename_i v2
     rw [e2]
     refine Zag (.cl b10 [.int .i64 (i:Int),.int .i64 (j:Int),.int .i64 (k:Int)] 39::.cl b6 [.slice (some ⟨bs,0,none⟩) 3 3,.int .i64 3,v2] 29::.cl b5 [.int .i64 ((0:Nat):Int),.int .i64 ((2:Nat):Int),.int .i64 ((1:Nat):Int)] 39::.cl b1 [.int .u8 (sz:Int),.int .u8 (tu:Int),.int .u16 (u0:Int),.int .u16 (u1:Int),.int .u16 (u2:Int),.int .u8 (q.h0:Int),.int .u8 (q.h1:Int),.int .u8 (q.h2:Int)] 26::[]) [] (.take 0 (.take 1 (.take 2 (.take 3 (.take 4 (.take 5 (.take 6 (.take 7 (.take 8 (.take 9 (.take 10 (.take 11 (.take 12 (.take 13 (.take 14 (.take 15 (.take 16 (.take 17 (.take 18 (.take 19 (.take 20 (.take 21 (.take 22 (.take 23 (.take 24 (.all [(25,.all [(26,.take 27 (.all [(28,.done)]))])])))))))))))))))))))))))))) ?_
     repeat' first|refine Kf ?_|intro _|constructor
     rename_i v3
     refine Post.round (k+1,v3) (by simp only;omega) (by simp only;omega) Zad ?_
     simp only [← Nat.add_assoc]
     rw [hgs]
     simp only [List.append_assoc,List.cons_append,List.nil_append]
     (exact Zaa)
    ·have hn:nodeD q ⟨i,j,k⟩=[8000+(q.s0:Int) * (k:Int)+8 * (q.h0:Int) * (j:Int),8000+(q.s1:Int) * (j:Int)+8 * (q.h1:Int) * (i:Int),8000+(q.s2:Int) * (i:Int)+8 * (q.h2:Int) * (k:Int)]:=by simp only [nodeD,D37.out,ho0,ho1,ho2];rfl
     rw [hn] at hgs
     repeat' first|refine Kz ?_|intro _
     rename_i b10
     refine Zao 4 ?_
     repeat' first|refine Kz ?_|intro _
     rw [e0]
     refine Zag (.cl b10 [.int .i64 (i:Int),.int .i64 (j:Int),.int .i64 (k:Int)] 39::.cl b6 [.slice (some ⟨bs,0,none⟩) 3 3,.int .i64 3,dv] 29::.cl b5 [.int .i64 ((2:Nat):Int),.int .i64 ((1:Nat):Int),.int .i64 ((0:Nat):Int)] 39::.cl b1 [.int .u8 (sz:Int),.int .u8 (tu:Int),.int .u16 (u0:Int),.int .u16 (u1:Int),.int .u16 (u2:Int),.int .u8 (q.h0:Int),.int .u8 (q.h1:Int),.int .u8 (q.h2:Int)] 26::[]) [] (.take 0 (.take 1 (.take 2 (.take 3 (.take 4 (.take 5 (.take 6 (.take 7 (.take 8 (.take 9 (.take 10 (.take 11 (.take 12 (.take 13 (.take 14 (.take 15 (.take 16 (.take 17 (.take 18 (.take 19 (.take 20 (.take 21 (.take 22 (.take 23 (.take 24 (.all [(25,.all [(26,.take 27 (.all [(28,.done)]))])])))))))))))))))))))))))))) ?_
     repeat' first|refine Kf ?_|intro _|constructor
     rename_i v1
     rw [e1]
     refine Zag (.cl b10 [.int .i64 (i:Int),.int .i64 (j:Int),.int .i64 (k:Int)] 39::.cl b6 [.slice (some ⟨bs,0,none⟩) 3 3,.int .i64 3,v1] 29::.cl b5 [.int .i64 ((2:Nat):Int),.int .i64 ((1:Nat):Int),.int .i64 ((0:Nat):Int)] 39::.cl b1 [.int .u8 (sz:Int),.int .u8 (tu:Int),.int .u16 (u0:Int),.int .u16 (u1:Int),.int .u16 (u2:Int),.int .u8 (q.h0:Int),.int .u8 (q.h1:Int),.int .u8 (q.h2:Int)] 26::[]) [] (.take 0 (.take 1 (.take 2 (.take 3 (.take 4 (.take 5 (.take 6 (.take 7 (.take 8 (.take 9 (.take 10 (.take 11 (.take 12 (.take 13 (.take 14 (.take 15 (.take 16 (.take 17 (.take 18 (.take 19 (.take 20 (.take 21 (.take 22 (.take 23 (.take 24 (.all [(25,.all [(26,.take 27 (.all [(28,.done)]))])])))))))))))))))))))))))))) ?_
     repeat' first|refine Kf ?_|intro _|constructor
     rename_i v2
     rw [e2]
     refine Zag (.cl b10 [.int .i64 (i:Int),.int .i64 (j:Int),.int .i64 (k:Int)] 39::.cl b6 [.slice (some ⟨bs,0,none⟩) 3 3,.int .i64 3,v2] 29::.cl b5 [.int .i64 ((2:Nat):Int),.int .i64 ((1:Nat):Int),.int .i64 ((0:Nat):Int)] 39::.cl b1 [.int .u8 (sz:Int),.int .u8 (tu:Int),.int .u16 (u0:Int),.int .u16 (u1:Int),.int .u16 (u2:Int),.int .u8 (q.h0:Int),.int .u8 (q.h1:Int),.int .u8 (q.h2:Int)] 26::[]) [] (.take 0 (.take 1 (.take 2 (.take 3 (.take 4 (.take 5 (.take 6 (.take 7 (.take 8 (.take 9 (.take 10 (.take 11 (.take 12 (.take 13 (.take 14 (.take 15 (.take 16 (.take 17 (.take 18 (.take 19 (.take 20 (.take 21 (.take 22 (.take 23 (.take 24 (.all [(25,.all [(26,.take 27 (.all [(28,.done)]))])])))))))))))))))))))))))))) ?_
     repeat' first|refine Kf ?_|intro _|constructor
     rename_i v3
     refine Post.round (k+1,v3) (by simp only;omega) (by simp only;omega) Zad ?_
     simp only [← Nat.add_assoc]
     rw [hgs]
     simp only [List.append_assoc,List.cons_append,List.nil_append]
     (exact Zaa)
    ·have hn:nodeD q ⟨i,j,k⟩=[8000+(q.s0:Int) * (j:Int)+8 * (q.h0:Int) * (k:Int),8000+(q.s1:Int) * (k:Int)+8 * (q.h1:Int) * (i:Int),8000+(q.s2:Int) * (i:Int)+8 * (q.h2:Int) * (j:Int)]:=by simp only [nodeD,D37.out,ho0,ho1,ho2];rfl
     rw [hn] at hgs
     repeat' first|refine Kz ?_|intro _
     rename_i b10
     refine Zao 4 ?_
     repeat' first|refine Kz ?_|intro _
     rw [e0]
     refine Zag (.cl b10 [.int .i64 (i:Int),.int .i64 (j:Int),.int .i64 (k:Int)] 39::.cl b6 [.slice (some ⟨bs,0,none⟩) 3 3,.int .i64 3,dv] 29::.cl b5 [.int .i64 ((1:Nat):Int),.int .i64 ((2:Nat):Int),.int .i64 ((0:Nat):Int)] 39::.cl b1 [.int .u8 (sz:Int),.int .u8 (tu:Int),.int .u16 (u0:Int),.int .u16 (u1:Int),.int .u16 (u2:Int),.int .u8 (q.h0:Int),.int .u8 (q.h1:Int),.int .u8 (q.h2:Int)] 26::[]) [] (.take 0 (.take 1 (.take 2 (.take 3 (.take 4 (.take 5 (.take 6 (.take 7 (.take 8 (.take 9 (.take 10 (.take 11 (.take 12 (.take 13 (.take 14 (.take 15 (.take 16 (.take 17 (.take 18 (.take 19 (.take 20 (.take 21 (.take 22 (.take 23 (.take 24 (.all [(25,.all [(26,.take 27 (.all [(28,.done)]))])])))))))))))))))))))))))))) ?_
     repeat' first|refine Kf ?_|intro _|constructor
     rename_i v1
     rw [e1]
     refine Zag (.cl b10 [.int .i64 (i:Int),.int .i64 (j:Int),.int .i64 (k:Int)] 39::.cl b6 [.slice (some ⟨bs,0,none⟩) 3 3,.int .i64 3,v1] 29::.cl b5 [.int .i64 ((1:Nat):Int),.int .i64 ((2:Nat):Int),.int .i64 ((0:Nat):Int)] 39::.cl b1 [.int .u8 (sz:Int),.int .u8 (tu:Int),.int .u16 (u0:Int),.int .u16 (u1:Int),.int .u16 (u2:Int),.int .u8 (q.h0:Int),.int .u8 (q.h1:Int),.int .u8 (q.h2:Int)] 26::[]) [] (.take 0 (.take 1 (.take 2 (.take 3 (.take 4 (.take 5 (.take 6 (.take 7 (.take 8 (.take 9 (.take 10 (.take 11 (.take 12 (.take 13 (.take 14 (.take 15 (.take 16 (.take 17 (.take 18 (.take 19 (.take 20 (.take 21 (.take 22 (.take 23 (.take 24 (.all [(25,.all [(26,.take 27 (.all [(28,.done)]))])])))))))))))))))))))))))))) ?_
     repeat' first|refine Kf ?_|intro _|constructor
     rename_i v2
     rw [e2]
     refine Zag (.cl b10 [.int .i64 (i:Int),.int .i64 (j:Int),.int .i64 (k:Int)] 39::.cl b6 [.slice (some ⟨bs,0,none⟩) 3 3,.int .i64 3,v2] 29::.cl b5 [.int .i64 ((1:Nat):Int),.int .i64 ((2:Nat):Int),.int .i64 ((0:Nat):Int)] 39::.cl b1 [.int .u8 (sz:Int),.int .u8 (tu:Int),.int .u16 (u0:Int),.int .u16 (u1:Int),.int .u16 (u2:Int),.int .u8 (q.h0:Int),.int .u8 (q.h1:Int),.int .u8 (q.h2:Int)] 26::[]) [] (.take 0 (.take 1 (.take 2 (.take 3 (.take 4 (.take 5 (.take 6 (.take 7 (.take 8 (.take 9 (.take 10 (.take 11 (.take 12 (.take 13 (.take 14 (.take 15 (.take 16 (.take 17 (.take 18 (.take 19 (.take 20 (.take 21 (.take 22 (.take 23 (.take 24 (.all [(25,.all [(26,.take 27 (.all [(28,.done)]))])])))))))))))))))))))))))))) ?_
     repeat' first|refine Kf ?_|intro _|constructor
     rename_i v3
     refine Post.round (k+1,v3) (by simp only;omega) (by simp only;omega) Zad ?_
     simp only [← Nat.add_assoc]
     rw [hgs]
     simp only [List.append_assoc,List.cons_append,List.nil_append]
     (exact Zaa)
    ·have hn:nodeD q ⟨i,j,k⟩=[8000+(q.s0:Int) * (k:Int)+8 * (q.h0:Int) * (i:Int),8000+(q.s1:Int) * (i:Int)+8 * (q.h1:Int) * (j:Int),8000+(q.s2:Int) * (j:Int)+8 * (q.h2:Int) * (k:Int)]:=by simp only [nodeD,D37.out,ho0,ho1,ho2];rfl
     rw [hn] at hgs
     repeat' first|refine Kz ?_|intro _
     rename_i b10
     refine Zao 4 ?_
     repeat' first|refine Kz ?_|intro _
     rw [e0]
     refine Zag (.cl b10 [.int .i64 (i:Int),.int .i64 (j:Int),.int .i64 (k:Int)] 39::.cl b6 [.slice (some ⟨bs,0,none⟩) 3 3,.int .i64 3,dv] 29::.cl b5 [.int .i64 ((2:Nat):Int),.int .i64 ((0:Nat):Int),.int .i64 ((1:Nat):Int)] 39::.cl b1 [.int .u8 (sz:Int),.int .u8 (tu:Int),.int .u16 (u0:Int),.int .u16 (u1:Int),.int .u16 (u2:Int),.int .u8 (q.h0:Int),.int .u8 (q.h1:Int),.int .u8 (q.h2:Int)] 26::[]) [] (.take 0 (.take 1 (.take 2 (.take 3 (.take 4 (.take 5 (.take 6 (.take 7 (.take 8 (.take 9 (.take 10 (.take 11 (.take 12 (.take 13 (.take 14 (.take 15 (.take 16 (.take 17 (.take 18 (.take 19 (.take 20 (.take 21 (.take 22 (.take 23 (.take 24 (.all [(25,.all [(26,.take 27 (.all [(28,.done)]))])])))))))))))))))))))))))))) ?_
     repeat' first|refine Kf ?_|intro _|constructor
     rename_i v1
     rw [e1]
     refine Zag (.cl b10 [.int .i64 (i:Int),.int .i64 (j:Int),.int .i64 (k:Int)] 39::.cl b6 [.slice (some ⟨bs,0,none⟩) 3 3,.int .i64 3,v1] 29::.cl b5 [.int .i64 ((2:Nat):Int),.int .i64 ((0:Nat):Int),.int .i64 ((1:Nat):Int)] 39::.cl b1 [.int .u8 (sz:Int),.int .u8 (tu:Int),.int .u16 (u0:Int),.int .u16 (u1:Int),.int .u16 (u2:Int),.int .u8 (q.h0:Int),.int .u8 (q.h1:Int),.int .u8 (q.h2:Int)] 26::[]) [] (.take 0 (.take 1 (.take 2 (.take 3 (.take 4 (.take 5 (.take 6 (.take 7 (.take 8 (.take 9 (.take 10 (.take 11 (.take 12 (.take 13 (.take 14 (.take 15 (.take 16 (.take 17 (.take 18 (.take 19 (.take 20 (.take 21 (.take 22 (.take 23 (.take 24 (.all [(25,.all [(26,.take 27 (.all [(28,.done)]))])])))))))))))))))))))))))))) ?_
     repeat' first|refine Kf ?_|intro _|constructor
     rename_i v2
     rw [e2]
     refine Zag (.cl b10 [.int .i64 (i:Int),.int .i64 (j:Int),.int .i64 (k:Int)] 39::.cl b6 [.slice (some ⟨bs,0,none⟩) 3 3,.int .i64 3,v2] 29::.cl b5 [.int .i64 ((2:Nat):Int),.int .i64 ((0:Nat):Int),.int .i64 ((1:Nat):Int)] 39::.cl b1 [.int .u8 (sz:Int),.int .u8 (tu:Int),.int .u16 (u0:Int),.int .u16 (u1:Int),.int .u16 (u2:Int),.int .u8 (q.h0:Int),.int .u8 (q.h1:Int),.int .u8 (q.h2:Int)] 26::[]) [] (.take 0 (.take 1 (.take 2 (.take 3 (.take 4 (.take 5 (.take 6 (.take 7 (.take 8 (.take 9 (.take 10 (.take 11 (.take 12 (.take 13 (.take 14 (.take 15 (.take 16 (.take 17 (.take 18 (.take 19 (.take 20 (.take 21 (.take 22 (.take 23 (.take 24 (.all [(25,.all [(26,.take 27 (.all [(28,.done)]))])])))))))))))))))))))))))))) ?_
     repeat' first|refine Kf ?_|intro _|constructor
     rename_i v3
     refine Post.round (k+1,v3) (by simp only;omega) (by simp only;omega) Zad ?_
     simp only [← Nat.add_assoc]
     rw [hgs]
     simp only [List.append_assoc,List.cons_append,List.nil_append]
     (exact Zaa)
   ·have hkc:k=c:=by omega
    repeat' first|refine Kz ?_|intro _
    refine Post.round (j+1,dv) (by simp only;omega) (by simp only;omega) Zad ?_
    simp only
    rw [show (i * b+(j+1)) * c=(i * b+j) * c+k by rw [hkc,← Nat.add_assoc,Nat.succ_mul]]
    (exact Zaa)
  ·have hjb:j=b:=by omega
   repeat' first|refine Kz ?_|intro _
   refine Post.round (i+1,dv) (by simp only;omega) (by simp only;omega) Zad ?_
   simp only
   rw [show (i+1) * b * c=(i * b+j) * c by rw [hjb,Nat.succ_mul]]
   (exact Zaa)
 ·have hia:i=a:=by omega
  subst hia
  refine Zdb (c:=cI .i64) (xs:=gridP q b c (i * b * c)) dv ?_
  rintro dp dc rfl
  repeat' first|refine Kz ?_|intro _
  (refine Zac ?_)
  exact ⟨_,⟨_,_,rfl,rfl⟩,by simp only [gridD];(exact Zaa)⟩
end Go.Proofs.YtbfgldlfciimiaaGreatDoor
namespace Go.Sx
open Go Go.Proofs.YtbfgldlfciimiaaGreatDoor
theorem Ztg {d:D37} {b c:Nat} {p:Nat}:∀ {n:Nat},p < n→(gridP d b c n)[3 * p]?=some (d.out (cellN b c p)).x∧(gridP d b c n)[3 * p+1]?=some (d.out (cellN b c p)).y∧(gridP d b c n)[3 * p+2]?=some (d.out (cellN b c p)).z
 | 0,h=>by omega
 | n + 1,h=>by
  have hl:=Zjj (d:=d) (b:=b) (c:=c) (n:=n)
  rw [Zo9]
  rcases Nat.lt_or_ge p n with hp|hp
  ·obtain ⟨h1,h2,h3⟩:=Ztg (d:=d) (b:=b) (c:=c) hp
   rw [List.getElem?_append_left (by omega),List.getElem?_append_left (by omega),List.getElem?_append_left (by omega)]
   exact ⟨h1,h2,h3⟩
  ·have:p=n:=by omega
   subst this
   rw [List.getElem?_append_right (by omega),List.getElem?_append_right (by omega),List.getElem?_append_right (by omega),hl]
   rw [show 3 * p - 3 * p=0 by omega,show 3 * p+1 - 3 * p=1 by omega,show 3 * p+2 - 3 * p=2 by omega]
   exact ⟨rfl,rfl,rfl⟩
theorem Z3c {s g:Nat} {x y:Int} (hs:s < 10000) (hg:g < 256) (hx:0≤x∧x≤4) (hy:0≤y∧y≤4):0≤8000+(s:Int) * x+8 * (g:Int) * y∧8000+(s:Int) * x+8 * (g:Int) * y≤65535:=by
 have h1:=Int.mul_le_mul (show (s:Int)≤9999 by omega) hx.2 hx.1 (by omega)
 have h2:=Int.mul_le_mul (show 8 * (g:Int)≤2040 by omega) hy.2 hy.1 (by omega)
 have h3:0≤(s:Int) * x:=Int.mul_nonneg (by omega) hx.1
 have h4:0≤8 * (g:Int) * y:=Int.mul_nonneg (by omega) hy.1
 omega
def inW (p:V3):Prop:=(0≤p.x∧p.x≤65535)∧(0≤p.y∧p.y≤65535)∧(0≤p.z∧p.z≤65535)
theorem Zh8 {d:D37} (h:d.ok) {i j k:Nat} (hi:i≤4) (hj:j≤4) (hk:k≤4):inW (d.out ⟨i,j,k⟩):=by
 obtain ⟨ht,⟨_,a0⟩,⟨_,a1⟩,⟨_,a2⟩,b0,b1,b2⟩:=h
 have hc:∀ o,0≤comp ⟨i,j,k⟩ o∧comp ⟨i,j,k⟩ o≤4:=fun o=>by
  unfold comp
  split
  ·dsimp only;omega
  ·split<;>dsimp only<;>omega
 exact ⟨Z3c a0 b0 (hc _) (hc _),Z3c a1 b1 (hc _) (hc _),Z3c a2 b2 (hc _) (hc _)⟩
theorem Zvi {n w:Int} (h0:0≤n) (h1:n≤65535) (h2:0≤w):0≤nearI n w∧nearI n w≤w:=by
 have a:=Int.mul_le_mul (show 2 * n≤131070 by omega) (Int.le_refl w) h2 (by omega)
 have b:0≤2 * n * w:=Int.mul_nonneg (by omega) h2
 unfold nearI
 omega
theorem Zgc {p:V3} (h:inW p):isFar (colV p)=false:=by
 obtain ⟨⟨x0,x1⟩,⟨y0,y1⟩,z0,z1⟩:=h
 have a:=Zvi x0 x1 (w:=100000) (by decide)
 have b:=Zvi y0 y1 (w:=256000) (by decide)
 have c:=Zvi z0 z1 (w:=256000) (by decide)
 unfold isFar colV colorV
 simp only [Bool.or_eq_false_iff]
 refine ⟨⟨⟨⟨⟨?_,?_⟩,?_⟩,?_⟩,?_⟩,?_⟩<;>refine decide_eq_false ?_
 all_goals omega
theorem Yhl {p:V3} (h:inW p):colorR [p.x,p.y,p.z]=(colV p,0):=by
 obtain ⟨⟨x0,x1⟩,⟨y0,y1⟩,z0,z1⟩:=h
 show (if (inR 0 65535 p.x&&inR 0 65535 p.y&&inR 0 65535 p.z)=true then (colorV p.x p.y p.z,(0:Int)) else (V3.zero,2))=_
 rw [if_pos (by simp only [inR,Bool.and_eq_true,decide_eq_true_eq];omega)]
 rfl
theorem Z4l {a b c p:Nat} (h:p < a * b * c):∃ i j k:Nat,cellN b c p=⟨i,j,k⟩∧i < a∧j < b∧k < c∧p=(i * b+j) * c+k:=by
 have hb:0 < b:=Nat.pos_of_ne_zero fun hb=>by rw [hb] at h;simp at h
 have hc:0 < c:=Nat.pos_of_ne_zero fun hc=>by rw [hc] at h;simp at h
 refine ⟨p / c / b,p / c % b,p % c,rfl,?_,Nat.mod_lt _ hb,Nat.mod_lt _ hc,?_⟩
 ·rw [Nat.div_lt_iff_lt_mul hb,Nat.div_lt_iff_lt_mul hc];exact h
 ·rw [Nat.div_add_mod',Nat.div_add_mod']
def phi (q:D37) (x:V3):V3:=colV (q.out x)
theorem Z3q {q:D37} (h:q.ok) {a b c:Nat} (hz:Sz a b c):gridOk [(a:Int),(b:Int),(c:Int)] 3 (gridD q a b c)=true:=by
 obtain ⟨a2,a5,b2,b4,c2,c4⟩:=hz
 have h1:=Nat.mul_le_mul a5 b4
 have h2:=Nat.mul_le_mul h1 c4
 have hl:(gridD q a b c).length=3 * (a * b * c):=Zjj
 refine Ycq.2 ⟨by simp,by omega,?_,⟨by omega,?_⟩,?_⟩
 ·intro x hx
  simp only [List.mem_cons,List.not_mem_nil,or_false] at hx
  omega
 ·rw [hl]
  simp only [prodI,List.foldl]
  rw [Int.one_mul]
  push_cast
  omega
 ·intro x hx
  unfold gridD gridP at hx
  obtain ⟨p,hp,hx⟩:=List.mem_flatMap.1 hx
  obtain ⟨i,j,k,e,hi,hj,hk,_⟩:=Z4l (List.mem_range.1 hp)
  rw [e] at hx
  obtain ⟨k1,k2,k3⟩:=Zh8 h (i:=i) (j:=j) (k:=k) (by omega) (by omega) (by omega)
  simp only [nodeD,List.mem_cons,List.not_mem_nil,or_false] at hx
  rcases hx with rfl|rfl|rfl
  ·exact k1
  ·exact k2
  ·exact k3
theorem Zqx {q:D37} {a b c i j k:Nat} (hi:i < a) (hj:j < b) (hk:k < c) :
  (gridD q a b c)[3 * ((i * b+j) * c+k)]?=some (q.out ⟨i,j,k⟩).x∧(gridD q a b c)[3 * ((i * b+j) * c+k)+1]?=some (q.out ⟨i,j,k⟩).y∧(gridD q a b c)[3 * ((i * b+j) * c+k)+2]?=some (q.out ⟨i,j,k⟩).z:=by
 have:=Ztg (d:=q) (b:=b) (c:=c) (Zhl hi hj hk)
 rw [Zrh hj hk] at this
 exact this
theorem Zx3 {q:D37} {a b c:Nat}:shellP (gridD q a b c) a b c=(nodesF a b c).map (phi q):=by
 unfold shellP
 refine List.map_congr_left fun x hx=>?_
 obtain ⟨i,j,k,rfl,hi,hj,hk,_⟩:=Zil hx
 obtain ⟨h1,h2,h3⟩:=Zqx (q:=q) hi hj hk
 have e:placeN b c ⟨(i:Int),(j:Int),(k:Int)⟩=3 * ((i * b+j) * c+k):=by simp [placeN]
 unfold pointV gAt
 rw [e,h1,h2,h3]
 rfl
end Go.Sx
