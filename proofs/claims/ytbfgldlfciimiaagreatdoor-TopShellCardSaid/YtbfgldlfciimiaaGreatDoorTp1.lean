/- Plain: which tetrahedra of a drafted grid hold a node, and with what weights. -/
import Derived.Test.YtbfgldlfciimiaaGreatDoorSh1
import Derived.Test.YtbfgldlfciimiaaGreatDoorIh1
import Derived.Test.YtbfgldlfciimiaaGreatDoorIj1
set_option maxHeartbeats 1000000
namespace Go.Sx
open Go
def in65 (p:V3):Prop:=(0≤p.x∧p.x≤65535)∧(0≤p.y∧p.y≤65535)∧(0≤p.z∧p.z≤65535)
def dtP (a b c:V3):Int:=a.x * (b.y * c.z - b.z * c.y) - a.y * (b.x * c.z - b.z * c.x)+a.z * (b.x * c.y - b.y * c.x)
def ordL (m c:Nat):Nat:=(([[0,1,2],[0,2,1],[1,0,2],[1,2,0],[2,0,1],[2,1,0]]:List (List Nat))[m]?.getD [])[c]?.getD 0
def crn (x:V3) (m:Nat):Nat→V3
 | 0=>x
 | c+1=>stepV (crn x m c) (ordL m c)
def wtW (v0 v1 v2 v3 g:V3):V3 × Int × Bool :=
 let D:=dtP (v1.sub v0) (v2.sub v0) (v3.sub v0)
 let s:Int:=if D < 0 then -1 else 1
 if D=0 then (V3.zero,0,false) else
 if s * dtP (g.sub v0) (v2.sub v0) (v3.sub v0) < 0 then (V3.zero,0,false) else
 if s * dtP (v1.sub v0) (g.sub v0) (v3.sub v0) < 0 then (V3.zero,0,false) else
 if s * dtP (v1.sub v0) (v2.sub v0) (g.sub v0) < 0 then (V3.zero,0,false) else
 (⟨s * dtP (g.sub v0) (v2.sub v0) (v3.sub v0),s * dtP (v1.sub v0) (g.sub v0) (v3.sub v0),s * dtP (v1.sub v0) (v2.sub v0) (g.sub v0)⟩,s * D,
   decide (0≤s * D - s * dtP (g.sub v0) (v2.sub v0) (v3.sub v0) - s * dtP (v1.sub v0) (g.sub v0) (v3.sub v0) - s * dtP (v1.sub v0) (v2.sub v0) (g.sub v0)))
def Holds (x n:V3) (m:Nat):Prop:=comp n (ordL m 0) - comp x (ordL m 0)≤1∧comp n (ordL m 1) - comp x (ordL m 1)≤comp n (ordL m 0) - comp x (ordL m 0)∧comp n (ordL m 2) - comp x (ordL m 2)≤comp n (ordL m 1) - comp x (ordL m 1)∧0≤comp n (ordL m 2) - comp x (ordL m 2)
instance {x n:V3} {m:Nat}:Decidable (Holds x n m):=by unfold Holds;infer_instance
theorem Z4a {q:D37} (h:q.ok):∃ C0 C1 C2:V3,(∀ x:V3,q.out x=⟨8000+x.x * C0.x+x.y * C1.x+x.z * C2.x,8000+x.x * C0.y+x.y * C1.y+x.z * C2.y,8000+x.x * C0.z+x.y * C1.z+x.z * C2.z⟩) ∧
  ∃ P:Int,(dtP C0 C1 C2=P∨dtP C0 C1 C2=-P)∧0 < P∧P≤2000000000000:=by
 obtain ⟨ht,⟨a0,a1⟩,⟨a2,a3⟩,⟨a4,a5⟩,b0,b1,b2⟩:=h
 obtain ⟨t,s0,s1,s2,h0,h1,h2⟩:=q
 simp only at ht a0 a1 a2 a3 a4 a5 b0 b1 b2
 have k1:s0 * s1≤10000 * 10000:=Nat.mul_le_mul (by omega) (by omega)
 have k2:s0 * s1 * s2≤10000 * 10000 * 10000:=Nat.mul_le_mul k1 (by omega)
 have k3:h0 * h1≤256 * 256:=Nat.mul_le_mul (by omega) (by omega)
 have k4:h0 * h1 * h2≤256 * 256 * 256:=Nat.mul_le_mul k3 (by omega)
 have k5:0 < s0 * s1 * s2:=Nat.mul_pos (Nat.mul_pos (by omega) (by omega)) (by omega)
 have hP:0 < ((s0 * s1 * s2+512 * (h0 * h1 * h2):Nat):Int)∧((s0 * s1 * s2+512 * (h0 * h1 * h2):Nat):Int)≤2000000000000:=by omega
 have e1:((s0 * s1 * s2+512 * (h0 * h1 * h2):Nat):Int)=(s0:Int) * s1 * s2+512 * ((h0:Int) * h1 * h2):=by rw [Int.natCast_add,Int.natCast_mul,Int.natCast_mul,Int.natCast_mul,Int.natCast_mul,Int.natCast_mul];rfl
 rw [e1] at hP
 clear k1 k2 k3 k4 k5 e1
 have h6:t=0∨t=1∨t=2∨t=3∨t=4∨t=5:=by omega
 have o:∀ (T:Nat) (x:V3),D37.out ⟨T,s0,s1,s2,h0,h1,h2⟩ x=⟨8000+s0 * comp x (ordT T 0)+8 * h0 * comp x (ordT T 1),8000+s1 * comp x (ordT T 1)+8 * h1 * comp x (ordT T 2),8000+s2 * comp x (ordT T 2)+8 * h2 * comp x (ordT T 0)⟩:=fun _ _=>rfl
 have c0:∀ x:V3,comp x 0=x.x:=fun _=>rfl
 have c1:∀ x:V3,comp x 1=x.y:=fun _=>rfl
 have c2:∀ x:V3,comp x 2=x.z:=fun _=>rfl
 rcases h6 with rfl|rfl|rfl|rfl|rfl|rfl
 ·refine ⟨⟨s0,0,8 * h2⟩,⟨8 * h0,s1,0⟩,⟨0,8 * h1,s2⟩,fun x=>?_,_,.inl ?_,hP.1,hP.2⟩
  ·rw [o,show ordT 0 0=0 from rfl,show ordT 0 1=1 from rfl,show ordT 0 2=2 from rfl,c0,c1,c2,V3.mk.injEq]
   refine ⟨?_,?_,?_⟩<;>grind
  ·simp only [dtP];grind
 ·refine ⟨⟨8 * h0,s1,0⟩,⟨s0,0,8 * h2⟩,⟨0,8 * h1,s2⟩,fun x=>?_,_,.inr ?_,hP.1,hP.2⟩
  ·rw [o,show ordT 1 0=1 from rfl,show ordT 1 1=0 from rfl,show ordT 1 2=2 from rfl,c0,c1,c2,V3.mk.injEq]
   refine ⟨?_,?_,?_⟩<;>grind
  ·simp only [dtP];grind
 ·refine ⟨⟨s0,0,8 * h2⟩,⟨0,8 * h1,s2⟩,⟨8 * h0,s1,0⟩,fun x=>?_,_,.inr ?_,hP.1,hP.2⟩
  ·rw [o,show ordT 2 0=0 from rfl,show ordT 2 1=2 from rfl,show ordT 2 2=1 from rfl,c0,c1,c2,V3.mk.injEq]
   refine ⟨?_,?_,?_⟩<;>grind
  ·simp only [dtP];grind
 ·refine ⟨⟨0,8 * h1,s2⟩,⟨8 * h0,s1,0⟩,⟨s0,0,8 * h2⟩,fun x=>?_,_,.inr ?_,hP.1,hP.2⟩
  ·rw [o,show ordT 3 0=2 from rfl,show ordT 3 1=1 from rfl,show ordT 3 2=0 from rfl,c0,c1,c2,V3.mk.injEq]
   refine ⟨?_,?_,?_⟩<;>grind
  ·simp only [dtP];grind
 ·refine ⟨⟨0,8 * h1,s2⟩,⟨s0,0,8 * h2⟩,⟨8 * h0,s1,0⟩,fun x=>?_,_,.inl ?_,hP.1,hP.2⟩
  ·rw [o,show ordT 4 0=1 from rfl,show ordT 4 1=2 from rfl,show ordT 4 2=0 from rfl,c0,c1,c2,V3.mk.injEq]
   refine ⟨?_,?_,?_⟩<;>grind
  ·simp only [dtP];grind
 ·refine ⟨⟨8 * h0,s1,0⟩,⟨0,8 * h1,s2⟩,⟨s0,0,8 * h2⟩,fun x=>?_,_,.inl ?_,hP.1,hP.2⟩
  ·rw [o,show ordT 5 0=2 from rfl,show ordT 5 1=0 from rfl,show ordT 5 2=1 from rfl,c0,c1,c2,V3.mk.injEq]
   refine ⟨?_,?_,?_⟩<;>grind
  ·simp only [dtP];grind
theorem Zjd {r0 r1 r2 g:V3} {u0 u1 u2:Int} (hx:g.x=u0 * r0.x+u1 * r1.x+u2 * r2.x) (hy:g.y=u0 * r0.y+u1 * r1.y+u2 * r2.y) (hz:g.z=u0 * r0.z+u1 * r1.z+u2 * r2.z) :
  dtP g r1 r2=u0 * dtP r0 r1 r2∧dtP r0 g r2=u1 * dtP r0 r1 r2∧dtP r0 r1 g=u2 * dtP r0 r1 r2:=by
 obtain ⟨gx,gy,gz⟩:=g
 simp only at hx hy hz
 subst hx hy hz
 simp only [dtP]
 refine ⟨?_,?_,?_⟩<;>grind
theorem Ziy {v0 v1 v2 v3 g:V3} {u0 u1 u2 W:Int} (hW:0 < W) (hD:dtP (v1.sub v0) (v2.sub v0) (v3.sub v0)=W∨dtP (v1.sub v0) (v2.sub v0) (v3.sub v0)=-W)
  (h0:dtP (g.sub v0) (v2.sub v0) (v3.sub v0)=u0 * dtP (v1.sub v0) (v2.sub v0) (v3.sub v0)) (h1:dtP (v1.sub v0) (g.sub v0) (v3.sub v0)=u1 * dtP (v1.sub v0) (v2.sub v0) (v3.sub v0)) (h2:dtP (v1.sub v0) (v2.sub v0) (g.sub v0)=u2 * dtP (v1.sub v0) (v2.sub v0) (v3.sub v0)) :
  (0≤u0∧0≤u1∧0≤u2∧u0+u1+u2≤1→wtW v0 v1 v2 v3 g=(⟨u0 * W,u1 * W,u2 * W⟩,W,true))∧(¬ (0≤u0∧0≤u1∧0≤u2∧u0+u1+u2≤1)→(wtW v0 v1 v2 v3 g).2.2=false):=by
 unfold wtW
 simp only
 rw [h0,h1,h2]
 generalize dtP (v1.sub v0) (v2.sub v0) (v3.sub v0)=D at hD
 have key:(D≠0)∧∀ u:Int,(if D < 0 then (-1:Int) else 1) * (u * D)=u * W:=by
  rcases hD with rfl|rfl
  ·refine ⟨by omega,fun u=>?_⟩
   rw [if_neg (by omega)];grind
  ·refine ⟨by omega,fun u=>?_⟩
   rw [if_pos (by omega)];grind
 have kD:(if D < 0 then (-1:Int) else 1) * D=W:=by have:=key.2 1;grind
 rw [if_neg key.1,key.2,key.2,key.2,kD]
 have sg:∀ u:Int,u * W < 0↔u < 0:=fun u=>by
  constructor
  ·intro h
   by_cases hu:u < 0
   ·exact hu
   ·have:=Int.mul_nonneg (show 0≤u by omega) (show 0≤W by omega);omega
  ·intro h;exact Int.mul_neg_of_neg_of_pos h hW
 have hs:W - u0 * W - u1 * W - u2 * W=(1 - (u0+u1+u2)) * W:=by grind
 rw [hs]
 have sp:0≤(1 - (u0+u1+u2)) * W↔u0+u1+u2≤1:=by
  have:=sg (1 - (u0+u1+u2));omega
 constructor
 ·rintro ⟨g0,g1,g2,g3⟩
  rw [if_neg (by rw [sg];omega),if_neg (by rw [sg];omega),if_neg (by rw [sg];omega),decide_eq_true (sp.2 g3)]
 ·intro hn
  by_cases g0:u0 < 0
  ·rw [if_pos ((sg _).2 g0)]
  rw [if_neg (by rw [sg];exact g0)]
  by_cases g1:u1 < 0
  ·rw [if_pos ((sg _).2 g1)]
  rw [if_neg (by rw [sg];exact g1)]
  by_cases g2:u2 < 0
  ·rw [if_pos ((sg _).2 g2)]
  rw [if_neg (by rw [sg];exact g2)]
  exact decide_eq_false fun h=>hn ⟨by omega,by omega,by omega,sp.1 h⟩
theorem Z6z {q:D37} (h:q.ok) {m:Nat} (hm:m < 6) (x n:V3):∃ W:Int,0 < W∧W≤2000000000000 ∧
  (Holds x n m→wtW (q.out (crn x m 0)) (q.out (crn x m 1)) (q.out (crn x m 2)) (q.out (crn x m 3)) (q.out n)=(⟨((comp n (ordL m 0) - comp x (ordL m 0)) - (comp n (ordL m 1) - comp x (ordL m 1))) * W,((comp n (ordL m 1) - comp x (ordL m 1)) - (comp n (ordL m 2) - comp x (ordL m 2))) * W,(comp n (ordL m 2) - comp x (ordL m 2)) * W⟩,W,true)) ∧
  (¬ Holds x n m→(wtW (q.out (crn x m 0)) (q.out (crn x m 1)) (q.out (crn x m 2)) (q.out (crn x m 3)) (q.out n)).2.2=false):=by
 obtain ⟨C0,C1,C2,hC,P,hdt,hP0,hP1⟩:=Z4a h
 refine ⟨P,hP0,hP1,?_⟩
 obtain ⟨x0,x1,x2⟩:=x
 obtain ⟨n0,n1,n2⟩:=n
 have hH:Holds ⟨x0,x1,x2⟩ ⟨n0,n1,n2⟩ m↔(0≤(comp ⟨n0,n1,n2⟩ (ordL m 0) - comp ⟨x0,x1,x2⟩ (ordL m 0)) - (comp ⟨n0,n1,n2⟩ (ordL m 1) - comp ⟨x0,x1,x2⟩ (ordL m 1))∧0≤(comp ⟨n0,n1,n2⟩ (ordL m 1) - comp ⟨x0,x1,x2⟩ (ordL m 1)) - (comp ⟨n0,n1,n2⟩ (ordL m 2) - comp ⟨x0,x1,x2⟩ (ordL m 2))∧0≤comp ⟨n0,n1,n2⟩ (ordL m 2) - comp ⟨x0,x1,x2⟩ (ordL m 2) ∧
   ((comp ⟨n0,n1,n2⟩ (ordL m 0) - comp ⟨x0,x1,x2⟩ (ordL m 0)) - (comp ⟨n0,n1,n2⟩ (ordL m 1) - comp ⟨x0,x1,x2⟩ (ordL m 1)))+((comp ⟨n0,n1,n2⟩ (ordL m 1) - comp ⟨x0,x1,x2⟩ (ordL m 1)) - (comp ⟨n0,n1,n2⟩ (ordL m 2) - comp ⟨x0,x1,x2⟩ (ordL m 2)))+(comp ⟨n0,n1,n2⟩ (ordL m 2) - comp ⟨x0,x1,x2⟩ (ordL m 2))≤1):=by
  unfold Holds;omega
 rw [hH]
 have h6:m=0∨m=1∨m=2∨m=3∨m=4∨m=5:=by omega
 obtain ⟨a0,a1,a2⟩:=C0
 obtain ⟨b0,b1,b2⟩:=C1
 obtain ⟨c0,c1,c2⟩:=C2
 simp only [dtP] at hdt
 simp only at hC
 -- the six orders
 rcases h6 with rfl|rfl|rfl|rfl|rfl|rfl
 ·have k0:crn ⟨x0,x1,x2⟩ 0 0=⟨x0,x1,x2⟩:=rfl
  have k1:crn ⟨x0,x1,x2⟩ 0 1=⟨x0+1,x1,x2⟩:=rfl
  have k2:crn ⟨x0,x1,x2⟩ 0 2=⟨x0+1,x1+1,x2⟩:=rfl
  have k3:crn ⟨x0,x1,x2⟩ 0 3=⟨x0+1,x1+1,x2+1⟩:=rfl
  have o0:ordL 0 0=0:=rfl
  have o1:ordL 0 1=1:=rfl
  have o2:ordL 0 2=2:=rfl
  rw [k0,k1,k2,k3,o0,o1,o2]
  have e1:(q.out ⟨x0+1,x1,x2⟩).sub (q.out ⟨x0,x1,x2⟩)=⟨a0,a1,a2⟩:=by rw [hC,hC];simp only [V3.sub,V3.mk.injEq];refine ⟨?_,?_,?_⟩<;>grind
  have e2:(q.out ⟨x0+1,x1+1,x2⟩).sub (q.out ⟨x0,x1,x2⟩)=⟨a0+b0,a1+b1,a2+b2⟩:=by rw [hC,hC];simp only [V3.sub,V3.mk.injEq];refine ⟨?_,?_,?_⟩<;>grind
  have e3:(q.out ⟨x0+1,x1+1,x2+1⟩).sub (q.out ⟨x0,x1,x2⟩)=⟨a0+b0+c0,a1+b1+c1,a2+b2+c2⟩:=by rw [hC,hC];simp only [V3.sub,V3.mk.injEq];refine ⟨?_,?_,?_⟩<;>grind
  have e4:(q.out ⟨n0,n1,n2⟩).sub (q.out ⟨x0,x1,x2⟩)=⟨(n0 - x0) * a0+(n1 - x1) * b0+(n2 - x2) * c0,(n0 - x0) * a1+(n1 - x1) * b1+(n2 - x2) * c1,(n0 - x0) * a2+(n1 - x1) * b2+(n2 - x2) * c2⟩:=by rw [hC,hC];simp only [V3.sub,V3.mk.injEq];refine ⟨?_,?_,?_⟩<;>grind
  have hD:dtP ((q.out ⟨x0+1,x1,x2⟩).sub (q.out ⟨x0,x1,x2⟩)) ((q.out ⟨x0+1,x1+1,x2⟩).sub (q.out ⟨x0,x1,x2⟩)) ((q.out ⟨x0+1,x1+1,x2+1⟩).sub (q.out ⟨x0,x1,x2⟩))=P∨dtP ((q.out ⟨x0+1,x1,x2⟩).sub (q.out ⟨x0,x1,x2⟩)) ((q.out ⟨x0+1,x1+1,x2⟩).sub (q.out ⟨x0,x1,x2⟩)) ((q.out ⟨x0+1,x1+1,x2+1⟩).sub (q.out ⟨x0,x1,x2⟩))=-P:=by
   rw [e1,e2,e3]
   simp only [dtP]
   rcases hdt with hdt|hdt
   ·first|(left;grind)|(right;grind)
   ·first|(right;grind)|(left;grind)
  obtain ⟨q0,q1,q2⟩:=Zjd (r0:=⟨a0,a1,a2⟩) (r1:=⟨a0+b0,a1+b1,a2+b2⟩) (r2:=⟨a0+b0+c0,a1+b1+c1,a2+b2+c2⟩) (g:=⟨(n0 - x0) * a0+(n1 - x1) * b0+(n2 - x2) * c0,(n0 - x0) * a1+(n1 - x1) * b1+(n2 - x2) * c1,(n0 - x0) * a2+(n1 - x1) * b2+(n2 - x2) * c2⟩) (u0:=(n0 - x0) - (n1 - x1)) (u1:=(n1 - x1) - (n2 - x2)) (u2:=n2 - x2) (by grind) (by grind) (by grind)
  exact Ziy (u0:=(n0 - x0) - (n1 - x1)) (u1:=(n1 - x1) - (n2 - x2)) (u2:=n2 - x2) hP0 hD (by rw [e1,e2,e3,e4];exact q0) (by rw [e1,e2,e3,e4];exact q1) (by rw [e1,e2,e3,e4];exact q2)
 ·have k0:crn ⟨x0,x1,x2⟩ 1 0=⟨x0,x1,x2⟩:=rfl
  have k1:crn ⟨x0,x1,x2⟩ 1 1=⟨x0+1,x1,x2⟩:=rfl
  have k2:crn ⟨x0,x1,x2⟩ 1 2=⟨x0+1,x1,x2+1⟩:=rfl
  have k3:crn ⟨x0,x1,x2⟩ 1 3=⟨x0+1,x1+1,x2+1⟩:=rfl
  have o0:ordL 1 0=0:=rfl
  have o1:ordL 1 1=2:=rfl
  have o2:ordL 1 2=1:=rfl
  rw [k0,k1,k2,k3,o0,o1,o2]
  have e1:(q.out ⟨x0+1,x1,x2⟩).sub (q.out ⟨x0,x1,x2⟩)=⟨a0,a1,a2⟩:=by rw [hC,hC];simp only [V3.sub,V3.mk.injEq];refine ⟨?_,?_,?_⟩<;>grind
  have e2:(q.out ⟨x0+1,x1,x2+1⟩).sub (q.out ⟨x0,x1,x2⟩)=⟨a0+c0,a1+c1,a2+c2⟩:=by rw [hC,hC];simp only [V3.sub,V3.mk.injEq];refine ⟨?_,?_,?_⟩<;>grind
  have e3:(q.out ⟨x0+1,x1+1,x2+1⟩).sub (q.out ⟨x0,x1,x2⟩)=⟨a0+c0+b0,a1+c1+b1,a2+c2+b2⟩:=by rw [hC,hC];simp only [V3.sub,V3.mk.injEq];refine ⟨?_,?_,?_⟩<;>grind
  have e4:(q.out ⟨n0,n1,n2⟩).sub (q.out ⟨x0,x1,x2⟩)=⟨(n0 - x0) * a0+(n1 - x1) * b0+(n2 - x2) * c0,(n0 - x0) * a1+(n1 - x1) * b1+(n2 - x2) * c1,(n0 - x0) * a2+(n1 - x1) * b2+(n2 - x2) * c2⟩:=by rw [hC,hC];simp only [V3.sub,V3.mk.injEq];refine ⟨?_,?_,?_⟩<;>grind
  have hD:dtP ((q.out ⟨x0+1,x1,x2⟩).sub (q.out ⟨x0,x1,x2⟩)) ((q.out ⟨x0+1,x1,x2+1⟩).sub (q.out ⟨x0,x1,x2⟩)) ((q.out ⟨x0+1,x1+1,x2+1⟩).sub (q.out ⟨x0,x1,x2⟩))=P∨dtP ((q.out ⟨x0+1,x1,x2⟩).sub (q.out ⟨x0,x1,x2⟩)) ((q.out ⟨x0+1,x1,x2+1⟩).sub (q.out ⟨x0,x1,x2⟩)) ((q.out ⟨x0+1,x1+1,x2+1⟩).sub (q.out ⟨x0,x1,x2⟩))=-P:=by
   rw [e1,e2,e3]
   simp only [dtP]
   rcases hdt with hdt|hdt
   ·first|(left;grind)|(right;grind)
   ·first|(right;grind)|(left;grind)
  obtain ⟨q0,q1,q2⟩:=Zjd (r0:=⟨a0,a1,a2⟩) (r1:=⟨a0+c0,a1+c1,a2+c2⟩) (r2:=⟨a0+c0+b0,a1+c1+b1,a2+c2+b2⟩) (g:=⟨(n0 - x0) * a0+(n1 - x1) * b0+(n2 - x2) * c0,(n0 - x0) * a1+(n1 - x1) * b1+(n2 - x2) * c1,(n0 - x0) * a2+(n1 - x1) * b2+(n2 - x2) * c2⟩) (u0:=(n0 - x0) - (n2 - x2)) (u1:=(n2 - x2) - (n1 - x1)) (u2:=n1 - x1) (by grind) (by grind) (by grind)
  exact Ziy (u0:=(n0 - x0) - (n2 - x2)) (u1:=(n2 - x2) - (n1 - x1)) (u2:=n1 - x1) hP0 hD (by rw [e1,e2,e3,e4];exact q0) (by rw [e1,e2,e3,e4];exact q1) (by rw [e1,e2,e3,e4];exact q2)
 ·have k0:crn ⟨x0,x1,x2⟩ 2 0=⟨x0,x1,x2⟩:=rfl
  have k1:crn ⟨x0,x1,x2⟩ 2 1=⟨x0,x1+1,x2⟩:=rfl
  have k2:crn ⟨x0,x1,x2⟩ 2 2=⟨x0+1,x1+1,x2⟩:=rfl
  have k3:crn ⟨x0,x1,x2⟩ 2 3=⟨x0+1,x1+1,x2+1⟩:=rfl
  have o0:ordL 2 0=1:=rfl
  have o1:ordL 2 1=0:=rfl
  have o2:ordL 2 2=2:=rfl
  rw [k0,k1,k2,k3,o0,o1,o2]
  have e1:(q.out ⟨x0,x1+1,x2⟩).sub (q.out ⟨x0,x1,x2⟩)=⟨b0,b1,b2⟩:=by rw [hC,hC];simp only [V3.sub,V3.mk.injEq];refine ⟨?_,?_,?_⟩<;>grind
  have e2:(q.out ⟨x0+1,x1+1,x2⟩).sub (q.out ⟨x0,x1,x2⟩)=⟨b0+a0,b1+a1,b2+a2⟩:=by rw [hC,hC];simp only [V3.sub,V3.mk.injEq];refine ⟨?_,?_,?_⟩<;>grind
  have e3:(q.out ⟨x0+1,x1+1,x2+1⟩).sub (q.out ⟨x0,x1,x2⟩)=⟨b0+a0+c0,b1+a1+c1,b2+a2+c2⟩:=by rw [hC,hC];simp only [V3.sub,V3.mk.injEq];refine ⟨?_,?_,?_⟩<;>grind
  have e4:(q.out ⟨n0,n1,n2⟩).sub (q.out ⟨x0,x1,x2⟩)=⟨(n0 - x0) * a0+(n1 - x1) * b0+(n2 - x2) * c0,(n0 - x0) * a1+(n1 - x1) * b1+(n2 - x2) * c1,(n0 - x0) * a2+(n1 - x1) * b2+(n2 - x2) * c2⟩:=by rw [hC,hC];simp only [V3.sub,V3.mk.injEq];refine ⟨?_,?_,?_⟩<;>grind
  have hD:dtP ((q.out ⟨x0,x1+1,x2⟩).sub (q.out ⟨x0,x1,x2⟩)) ((q.out ⟨x0+1,x1+1,x2⟩).sub (q.out ⟨x0,x1,x2⟩)) ((q.out ⟨x0+1,x1+1,x2+1⟩).sub (q.out ⟨x0,x1,x2⟩))=P∨dtP ((q.out ⟨x0,x1+1,x2⟩).sub (q.out ⟨x0,x1,x2⟩)) ((q.out ⟨x0+1,x1+1,x2⟩).sub (q.out ⟨x0,x1,x2⟩)) ((q.out ⟨x0+1,x1+1,x2+1⟩).sub (q.out ⟨x0,x1,x2⟩))=-P:=by
   rw [e1,e2,e3]
   simp only [dtP]
   rcases hdt with hdt|hdt
   ·first|(left;grind)|(right;grind)
   ·first|(right;grind)|(left;grind)
  obtain ⟨q0,q1,q2⟩:=Zjd (r0:=⟨b0,b1,b2⟩) (r1:=⟨b0+a0,b1+a1,b2+a2⟩) (r2:=⟨b0+a0+c0,b1+a1+c1,b2+a2+c2⟩) (g:=⟨(n0 - x0) * a0+(n1 - x1) * b0+(n2 - x2) * c0,(n0 - x0) * a1+(n1 - x1) * b1+(n2 - x2) * c1,(n0 - x0) * a2+(n1 - x1) * b2+(n2 - x2) * c2⟩) (u0:=(n1 - x1) - (n0 - x0)) (u1:=(n0 - x0) - (n2 - x2)) (u2:=n2 - x2) (by grind) (by grind) (by grind)
  exact Ziy (u0:=(n1 - x1) - (n0 - x0)) (u1:=(n0 - x0) - (n2 - x2)) (u2:=n2 - x2) hP0 hD (by rw [e1,e2,e3,e4];exact q0) (by rw [e1,e2,e3,e4];exact q1) (by rw [e1,e2,e3,e4];exact q2)
 ·have k0:crn ⟨x0,x1,x2⟩ 3 0=⟨x0,x1,x2⟩:=rfl
  have k1:crn ⟨x0,x1,x2⟩ 3 1=⟨x0,x1+1,x2⟩:=rfl
  have k2:crn ⟨x0,x1,x2⟩ 3 2=⟨x0,x1+1,x2+1⟩:=rfl
  have k3:crn ⟨x0,x1,x2⟩ 3 3=⟨x0+1,x1+1,x2+1⟩:=rfl
  have o0:ordL 3 0=1:=rfl
  have o1:ordL 3 1=2:=rfl
  have o2:ordL 3 2=0:=rfl
  rw [k0,k1,k2,k3,o0,o1,o2]
  have e1:(q.out ⟨x0,x1+1,x2⟩).sub (q.out ⟨x0,x1,x2⟩)=⟨b0,b1,b2⟩:=by rw [hC,hC];simp only [V3.sub,V3.mk.injEq];refine ⟨?_,?_,?_⟩<;>grind
  have e2:(q.out ⟨x0,x1+1,x2+1⟩).sub (q.out ⟨x0,x1,x2⟩)=⟨b0+c0,b1+c1,b2+c2⟩:=by rw [hC,hC];simp only [V3.sub,V3.mk.injEq];refine ⟨?_,?_,?_⟩<;>grind
  have e3:(q.out ⟨x0+1,x1+1,x2+1⟩).sub (q.out ⟨x0,x1,x2⟩)=⟨b0+c0+a0,b1+c1+a1,b2+c2+a2⟩:=by rw [hC,hC];simp only [V3.sub,V3.mk.injEq];refine ⟨?_,?_,?_⟩<;>grind
  have e4:(q.out ⟨n0,n1,n2⟩).sub (q.out ⟨x0,x1,x2⟩)=⟨(n0 - x0) * a0+(n1 - x1) * b0+(n2 - x2) * c0,(n0 - x0) * a1+(n1 - x1) * b1+(n2 - x2) * c1,(n0 - x0) * a2+(n1 - x1) * b2+(n2 - x2) * c2⟩:=by rw [hC,hC];simp only [V3.sub,V3.mk.injEq];refine ⟨?_,?_,?_⟩<;>grind
  have hD:dtP ((q.out ⟨x0,x1+1,x2⟩).sub (q.out ⟨x0,x1,x2⟩)) ((q.out ⟨x0,x1+1,x2+1⟩).sub (q.out ⟨x0,x1,x2⟩)) ((q.out ⟨x0+1,x1+1,x2+1⟩).sub (q.out ⟨x0,x1,x2⟩))=P∨dtP ((q.out ⟨x0,x1+1,x2⟩).sub (q.out ⟨x0,x1,x2⟩)) ((q.out ⟨x0,x1+1,x2+1⟩).sub (q.out ⟨x0,x1,x2⟩)) ((q.out ⟨x0+1,x1+1,x2+1⟩).sub (q.out ⟨x0,x1,x2⟩))=-P:=by
   rw [e1,e2,e3]
   simp only [dtP]
   rcases hdt with hdt|hdt
   ·first|(left;grind)|(right;grind)
   ·first|(right;grind)|(left;grind)
  obtain ⟨q0,q1,q2⟩:=Zjd (r0:=⟨b0,b1,b2⟩) (r1:=⟨b0+c0,b1+c1,b2+c2⟩) (r2:=⟨b0+c0+a0,b1+c1+a1,b2+c2+a2⟩) (g:=⟨(n0 - x0) * a0+(n1 - x1) * b0+(n2 - x2) * c0,(n0 - x0) * a1+(n1 - x1) * b1+(n2 - x2) * c1,(n0 - x0) * a2+(n1 - x1) * b2+(n2 - x2) * c2⟩) (u0:=(n1 - x1) - (n2 - x2)) (u1:=(n2 - x2) - (n0 - x0)) (u2:=n0 - x0) (by grind) (by grind) (by grind)
  exact Ziy (u0:=(n1 - x1) - (n2 - x2)) (u1:=(n2 - x2) - (n0 - x0)) (u2:=n0 - x0) hP0 hD (by rw [e1,e2,e3,e4];exact q0) (by rw [e1,e2,e3,e4];exact q1) (by rw [e1,e2,e3,e4];exact q2)
 ·have k0:crn ⟨x0,x1,x2⟩ 4 0=⟨x0,x1,x2⟩:=rfl
  have k1:crn ⟨x0,x1,x2⟩ 4 1=⟨x0,x1,x2+1⟩:=rfl
  have k2:crn ⟨x0,x1,x2⟩ 4 2=⟨x0+1,x1,x2+1⟩:=rfl
  have k3:crn ⟨x0,x1,x2⟩ 4 3=⟨x0+1,x1+1,x2+1⟩:=rfl
  have o0:ordL 4 0=2:=rfl
  have o1:ordL 4 1=0:=rfl
  have o2:ordL 4 2=1:=rfl
  rw [k0,k1,k2,k3,o0,o1,o2]
  have e1:(q.out ⟨x0,x1,x2+1⟩).sub (q.out ⟨x0,x1,x2⟩)=⟨c0,c1,c2⟩:=by rw [hC,hC];simp only [V3.sub,V3.mk.injEq];refine ⟨?_,?_,?_⟩<;>grind
  have e2:(q.out ⟨x0+1,x1,x2+1⟩).sub (q.out ⟨x0,x1,x2⟩)=⟨c0+a0,c1+a1,c2+a2⟩:=by rw [hC,hC];simp only [V3.sub,V3.mk.injEq];refine ⟨?_,?_,?_⟩<;>grind
  have e3:(q.out ⟨x0+1,x1+1,x2+1⟩).sub (q.out ⟨x0,x1,x2⟩)=⟨c0+a0+b0,c1+a1+b1,c2+a2+b2⟩:=by rw [hC,hC];simp only [V3.sub,V3.mk.injEq];refine ⟨?_,?_,?_⟩<;>grind
  have e4:(q.out ⟨n0,n1,n2⟩).sub (q.out ⟨x0,x1,x2⟩)=⟨(n0 - x0) * a0+(n1 - x1) * b0+(n2 - x2) * c0,(n0 - x0) * a1+(n1 - x1) * b1+(n2 - x2) * c1,(n0 - x0) * a2+(n1 - x1) * b2+(n2 - x2) * c2⟩:=by rw [hC,hC];simp only [V3.sub,V3.mk.injEq];refine ⟨?_,?_,?_⟩<;>grind
  have hD:dtP ((q.out ⟨x0,x1,x2+1⟩).sub (q.out ⟨x0,x1,x2⟩)) ((q.out ⟨x0+1,x1,x2+1⟩).sub (q.out ⟨x0,x1,x2⟩)) ((q.out ⟨x0+1,x1+1,x2+1⟩).sub (q.out ⟨x0,x1,x2⟩))=P∨dtP ((q.out ⟨x0,x1,x2+1⟩).sub (q.out ⟨x0,x1,x2⟩)) ((q.out ⟨x0+1,x1,x2+1⟩).sub (q.out ⟨x0,x1,x2⟩)) ((q.out ⟨x0+1,x1+1,x2+1⟩).sub (q.out ⟨x0,x1,x2⟩))=-P:=by
   rw [e1,e2,e3]
   simp only [dtP]
   rcases hdt with hdt|hdt
   ·first|(left;grind)|(right;grind)
   ·first|(right;grind)|(left;grind)
  obtain ⟨q0,q1,q2⟩:=Zjd (r0:=⟨c0,c1,c2⟩) (r1:=⟨c0+a0,c1+a1,c2+a2⟩) (r2:=⟨c0+a0+b0,c1+a1+b1,c2+a2+b2⟩) (g:=⟨(n0 - x0) * a0+(n1 - x1) * b0+(n2 - x2) * c0,(n0 - x0) * a1+(n1 - x1) * b1+(n2 - x2) * c1,(n0 - x0) * a2+(n1 - x1) * b2+(n2 - x2) * c2⟩) (u0:=(n2 - x2) - (n0 - x0)) (u1:=(n0 - x0) - (n1 - x1)) (u2:=n1 - x1) (by grind) (by grind) (by grind)
  exact Ziy (u0:=(n2 - x2) - (n0 - x0)) (u1:=(n0 - x0) - (n1 - x1)) (u2:=n1 - x1) hP0 hD (by rw [e1,e2,e3,e4];exact q0) (by rw [e1,e2,e3,e4];exact q1) (by rw [e1,e2,e3,e4];exact q2)
 ·have k0:crn ⟨x0,x1,x2⟩ 5 0=⟨x0,x1,x2⟩:=rfl
  have k1:crn ⟨x0,x1,x2⟩ 5 1=⟨x0,x1,x2+1⟩:=rfl
  have k2:crn ⟨x0,x1,x2⟩ 5 2=⟨x0,x1+1,x2+1⟩:=rfl
  have k3:crn ⟨x0,x1,x2⟩ 5 3=⟨x0+1,x1+1,x2+1⟩:=rfl
  have o0:ordL 5 0=2:=rfl
  have o1:ordL 5 1=1:=rfl
  have o2:ordL 5 2=0:=rfl
  rw [k0,k1,k2,k3,o0,o1,o2]
  have e1:(q.out ⟨x0,x1,x2+1⟩).sub (q.out ⟨x0,x1,x2⟩)=⟨c0,c1,c2⟩:=by rw [hC,hC];simp only [V3.sub,V3.mk.injEq];refine ⟨?_,?_,?_⟩<;>grind
  have e2:(q.out ⟨x0,x1+1,x2+1⟩).sub (q.out ⟨x0,x1,x2⟩)=⟨c0+b0,c1+b1,c2+b2⟩:=by rw [hC,hC];simp only [V3.sub,V3.mk.injEq];refine ⟨?_,?_,?_⟩<;>grind
  have e3:(q.out ⟨x0+1,x1+1,x2+1⟩).sub (q.out ⟨x0,x1,x2⟩)=⟨c0+b0+a0,c1+b1+a1,c2+b2+a2⟩:=by rw [hC,hC];simp only [V3.sub,V3.mk.injEq];refine ⟨?_,?_,?_⟩<;>grind
  have e4:(q.out ⟨n0,n1,n2⟩).sub (q.out ⟨x0,x1,x2⟩)=⟨(n0 - x0) * a0+(n1 - x1) * b0+(n2 - x2) * c0,(n0 - x0) * a1+(n1 - x1) * b1+(n2 - x2) * c1,(n0 - x0) * a2+(n1 - x1) * b2+(n2 - x2) * c2⟩:=by rw [hC,hC];simp only [V3.sub,V3.mk.injEq];refine ⟨?_,?_,?_⟩<;>grind
  have hD:dtP ((q.out ⟨x0,x1,x2+1⟩).sub (q.out ⟨x0,x1,x2⟩)) ((q.out ⟨x0,x1+1,x2+1⟩).sub (q.out ⟨x0,x1,x2⟩)) ((q.out ⟨x0+1,x1+1,x2+1⟩).sub (q.out ⟨x0,x1,x2⟩))=P∨dtP ((q.out ⟨x0,x1,x2+1⟩).sub (q.out ⟨x0,x1,x2⟩)) ((q.out ⟨x0,x1+1,x2+1⟩).sub (q.out ⟨x0,x1,x2⟩)) ((q.out ⟨x0+1,x1+1,x2+1⟩).sub (q.out ⟨x0,x1,x2⟩))=-P:=by
   rw [e1,e2,e3]
   simp only [dtP]
   rcases hdt with hdt|hdt
   ·first|(left;grind)|(right;grind)
   ·first|(right;grind)|(left;grind)
  obtain ⟨q0,q1,q2⟩:=Zjd (r0:=⟨c0,c1,c2⟩) (r1:=⟨c0+b0,c1+b1,c2+b2⟩) (r2:=⟨c0+b0+a0,c1+b1+a1,c2+b2+a2⟩) (g:=⟨(n0 - x0) * a0+(n1 - x1) * b0+(n2 - x2) * c0,(n0 - x0) * a1+(n1 - x1) * b1+(n2 - x2) * c1,(n0 - x0) * a2+(n1 - x1) * b2+(n2 - x2) * c2⟩) (u0:=(n2 - x2) - (n1 - x1)) (u1:=(n1 - x1) - (n0 - x0)) (u2:=n0 - x0) (by grind) (by grind) (by grind)
  exact Ziy (u0:=(n2 - x2) - (n1 - x1)) (u1:=(n1 - x1) - (n0 - x0)) (u2:=n0 - x0) hP0 hD (by rw [e1,e2,e3,e4];exact q0) (by rw [e1,e2,e3,e4];exact q1) (by rw [e1,e2,e3,e4];exact q2)
end Go.Sx
namespace Go.Sx
open Go Go.Proofs.YtbfgldlfciimiaaGreatDoor
theorem Zxy {a b c i j k:Nat} (hz:Sz a b c) (hi:i < a) (hj:j < b) (hk:k < c) :
  ∃ (i0 j0 k0 m:Nat),i0 < a - 1∧j0 < b - 1∧k0 < c - 1∧m < 6∧Holds ⟨i0,j0,k0⟩ ⟨i,j,k⟩ m:=by
 have a2:=hz.a2
 have b2:=hz.b2
 have c2:=hz.c2
 have key:∀ n N:Nat,2≤N→n < N→∃ x,x < N - 1∧(n=x∨n=x+1):=fun n N h1 h2=>by
  by_cases h:n < N - 1
  ·exact ⟨n,h,.inl rfl⟩
  ·exact ⟨n - 1,by omega,.inr (by omega)⟩
 obtain ⟨i0,hi0,hi1⟩:=key i a a2 hi
 obtain ⟨j0,hj0,hj1⟩:=key j b b2 hj
 obtain ⟨k0,hk0,hk1⟩:=key k c c2 hk
 refine ⟨i0,j0,k0,?_⟩
 rcases hi1 with rfl|rfl<;>rcases hj1 with rfl|rfl<;>rcases hk1 with rfl|rfl
 ·refine ⟨0,hi0,hj0,hk0,by decide,?_⟩
  show (i:Int) - i≤1∧(j:Int) - j≤(i:Int) - i∧(k:Int) - k≤(j:Int) - j∧0≤(k:Int) - k
  omega
 ·refine ⟨4,hi0,hj0,hk0,by decide,?_⟩
  show ((k0+1:Nat):Int) - k0≤1∧(i:Int) - i≤((k0+1:Nat):Int) - k0∧(j:Int) - j≤(i:Int) - i∧0≤(j:Int) - j
  omega
 ·refine ⟨2,hi0,hj0,hk0,by decide,?_⟩
  show ((j0+1:Nat):Int) - j0≤1∧(i:Int) - i≤((j0+1:Nat):Int) - j0∧(k:Int) - k≤(i:Int) - i∧0≤(k:Int) - k
  omega
 ·refine ⟨3,hi0,hj0,hk0,by decide,?_⟩
  show ((j0+1:Nat):Int) - j0≤1∧((k0+1:Nat):Int) - k0≤((j0+1:Nat):Int) - j0∧(i:Int) - i≤((k0+1:Nat):Int) - k0∧0≤(i:Int) - i
  omega
 ·refine ⟨0,hi0,hj0,hk0,by decide,?_⟩
  show ((i0+1:Nat):Int) - i0≤1∧(j:Int) - j≤((i0+1:Nat):Int) - i0∧(k:Int) - k≤(j:Int) - j∧0≤(k:Int) - k
  omega
 ·refine ⟨1,hi0,hj0,hk0,by decide,?_⟩
  show ((i0+1:Nat):Int) - i0≤1∧((k0+1:Nat):Int) - k0≤((i0+1:Nat):Int) - i0∧(j:Int) - j≤((k0+1:Nat):Int) - k0∧0≤(j:Int) - j
  omega
 ·refine ⟨0,hi0,hj0,hk0,by decide,?_⟩
  show ((i0+1:Nat):Int) - i0≤1∧((j0+1:Nat):Int) - j0≤((i0+1:Nat):Int) - i0∧(k:Int) - k≤((j0+1:Nat):Int) - j0∧0≤(k:Int) - k
  omega
 ·refine ⟨0,hi0,hj0,hk0,by decide,?_⟩
  show ((i0+1:Nat):Int) - i0≤1∧((j0+1:Nat):Int) - j0≤((i0+1:Nat):Int) - i0∧((k0+1:Nat):Int) - k0≤((j0+1:Nat):Int) - j0∧0≤((k0+1:Nat):Int) - k0
  omega
theorem Z71 {q:D37} (h:q.ok) {a b c:Nat} (hz:Sz a b c) {i j k:Nat} (hi:i < a) (hj:j < b) (hk:k < c) {F:List V3}
  (hF:F=shellF a b c∨F=(shellF a b c).map swapF) (hon:onI a b c i j k=true):sideW ((nodesF a b c).map (phi q)) F (phi q ⟨i,j,k⟩)=(1,0):=by
 have hst:Steps q.t (phi q):=Zix h
 have hfa:∀ x∈nodesF a b c,isFar (phi q x)=false:=fun x hx=>by
  obtain ⟨i,j,k,rfl,hi,hj,hk,_⟩:=Zgh hx
  have:=hz.a5;have:=hz.b4;have:=hz.c4
  exact Zjg (Zgg h (by omega) (by omega) (by omega))
 have hg:=Ze0 hz hst h.1 hfa
 have ht:=Zek hz hst h.1 hfa
 have hgF:Good ((nodesF a b c).map (phi q)) F:=by rcases hF with rfl|rfl;exact hg;exact ht
 have hfl:(flawM ((nodesF a b c).map (phi q)) F).1=0:=Yb3.2 hgF
 have hfar:isFar (phi q ⟨i,j,k⟩)=false:=by
  have:=hz.a5;have:=hz.b4;have:=hz.c4
  exact Zjg (Zgg h (by omega) (by omega) (by omega))
 have onF:onM axP ((nodesF a b c).map (phi q)) F (phi q ⟨i,j,k⟩)=onM axP ((nodesF a b c).map (phi q)) (shellF a b c) (phi q ⟨i,j,k⟩):=by
  rcases hF with rfl|rfl
  ·rfl
  ·exact Zo2 hg ht
 unfold sideW
 rw [if_neg (fun h=>h hfl),hfar,if_neg (by decide),onF]
 have hmem:=Ze4 hi hj hk hon
 have hu:=hz.used
 unfold usedJ at hu
 rw [List.all_eq_true] at hu
 have hu:=hu _ hmem
 rw [List.any_eq_true] at hu
 obtain ⟨y,hy,hu⟩:=hu
 simp only [Bool.or_eq_true,decide_eq_true_eq] at hu
 have hp:ptAt ((nodesF a b c).map (phi q)) (posN (nodesF a b c) ⟨i,j,k⟩:Nat)=phi q ⟨i,j,k⟩:=by
  have hp:=Zh8 (Zcv a b c (a * b * c)) hmem
  rw [Zbr (by omega) (by have:=hp.2;exact_mod_cast this),Zz0 hmem]
 have:onM axP ((nodesF a b c).map (phi q)) (shellF a b c) (phi q ⟨i,j,k⟩)=true:=by
  refine Zr3 hg (f:=posF (nodesF a b c) y) (by rw [Zf8];exact List.mem_map_of_mem hy) ?_
  unfold posF
  rcases hu with e|e|e
  ·rw [e];exact .inl hp
  ·rw [e];exact .inr (.inl hp)
  ·rw [e];exact .inr (.inr hp)
 rw [this,if_pos rfl]
end Go.Sx
