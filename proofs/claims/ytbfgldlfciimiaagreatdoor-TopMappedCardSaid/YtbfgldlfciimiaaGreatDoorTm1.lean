/- Plain: a mesh winds round a point: a face that the way to its middle hits alone; which way a corner of a drafted grid lies, up to what rounding takes. -/
import Derived.Test.YtbfgldlfciimiaaGreatDoorIh1
set_option maxHeartbeats 1000000
namespace Go.Sx
open Go
theorem Zqi {P F:List V3} (hg:Good P F) {p f0:V3} (ho:onM axP P F p=false) (hf0:f0∈F) (hD:det3 (relV P p f0.x) (relV P p f0.y) (relV P p f0.z)≠0)
  (hs:∀ f∈F,f≠f0→∃ w:V3,w.dot (((relV P p f0.x).plus (relV P p f0.y)).plus (relV P p f0.z)) < 0∧0≤w.dot (relV P p f.x)∧0≤w.dot (relV P p f.y)∧0≤w.dot (relV P p f.z)):windN P F p≠0:=by
 obtain ⟨W,hW⟩:∃ W:V3→V3,∀ f∈F,f≠f0→(W f).dot (((relV P p f0.x).plus (relV P p f0.y)).plus (relV P p f0.z)) < 0∧0≤(W f).dot (relV P p f.x)∧0≤(W f).dot (relV P p f.y)∧0≤(W f).dot (relV P p f.z):=by
  haveI:Nonempty V3:=⟨V3.zero⟩
  refine ⟨fun f=>Classical.epsilon fun w=>w.dot (((relV P p f0.x).plus (relV P p f0.y)).plus (relV P p f0.z)) < 0∧0≤w.dot (relV P p f.x)∧0≤w.dot (relV P p f.y)∧0≤w.dot (relV P p f.z),fun f hf hff=>?_⟩
  exact Classical.epsilon_spec (p:=fun w:V3=>w.dot (((relV P p f0.x).plus (relV P p f0.y)).plus (relV P p f0.z)) < 0∧0≤w.dot (relV P p f.x)∧0≤w.dot (relV P p f.y)∧0≤w.dot (relV P p f.z)) (hs f hf hff)
 obtain ⟨T,hT⟩:=Zm4 (norms P F p)
 have hT:=hT (T+1) (by omega)
 obtain ⟨M,hM⟩:=Zjb (dirT (T+1)) (norms P F p++F.map W)
 obtain ⟨d,hd⟩:∃ d,d=nextTo (((relV P p f0.x).plus (relV P p f0.y)).plus (relV P p f0.z)) (dirT (T+1)) (M+1):=⟨_,rfl⟩
 have hN:∀ n∈norms P F p,((dirT (T+1)).dot n).natAbs < M+1:=fun n hn=>Nat.lt_succ_of_le (hM n (List.mem_append_left _ hn))
 have hNW:∀ f∈F,((dirT (T+1)).dot (W f)).natAbs < M+1:=fun f hf=>Nat.lt_succ_of_le (hM _ (List.mem_append_right _ (List.mem_map_of_mem hf)))
 have hcl:∀ f∈F,ClearF P p d f:=by rw [hd];exact Zen hT hN
 have hfine:Fine P F p d:=by
  intro f hf h
  obtain ⟨c1,c2,c3⟩:=Zhu h
  obtain ⟨k1,k2,k3⟩:=hcl f hf
  exact ⟨k1 c1,k2 c2,k3 c3⟩
 rw [Zcx hg ho hfine]
 obtain ⟨m1,m2,m3⟩:=Zet (P:=P) (p:=p) hf0
 have key:∀ {u v:V3},u.cross v∈norms P F p→det3 (((relV P p f0.x).plus (relV P p f0.y)).plus (relV P p f0.z)) u v≠0→(det3 d u v).sign=(det3 (((relV P p f0.x).plus (relV P p f0.y)).plus (relV P p f0.z)) u v).sign:=fun {u v} hm h0=>by
  rw [hd]
  unfold det3 at h0 ⊢
  rw [Zja]
  exact Zcu h0 (hN _ hm)
 obtain ⟨e1,e2,e3⟩:=Z37 (relV P p f0.x) (relV P p f0.y) (relV P p f0.z)
 have g1:=key m2 (by rw [e1];exact hD)
 have g2:=key m3 (by rw [e2];exact hD)
 have g3:=key m1 (by rw [e3];exact hD)
 rw [e1] at g1
 rw [e2] at g2
 rw [e3] at g3
 have hhit:hitF P p d f0=(det3 (relV P p f0.x) (relV P p f0.y) (relV P p f0.z)).sign:=by
  unfold hitF hit3 hitS
  rw [if_pos ⟨hD,g1,g2,g3⟩]
 have hne:hitF P p d f0≠0:=by rw [hhit];exact Z97.2 hD
 unfold windM
 rw [Zmw (g:=hitF P p d) (f0:=f0) F (fun f hf hff=>by
  refine Classical.byContradiction fun h'=>?_
  obtain ⟨h1,h2,h3,h4⟩:=hW f hf hff
  obtain ⟨D',x',y',z',hD',hx',hy',hz',e'⟩:=Zqq h'
  have e':=e' (W f)
  have hdW:(W f).dot d < 0:=by
   have c:∀ u v:V3,u.dot v=v.dot u:=fun u v=>by simp only [V3.dot];grind
   have hb:=hNW f hf
   rw [c] at h1
   rw [c,hd,Zja]
   generalize V3.dot (((relV P p f0.x).plus (relV P p f0.y)).plus (relV P p f0.z)) (W f)=A at *
   generalize V3.dot (dirT (T+1)) (W f)=B at *
   have:((M+1:Nat):Int) * A≤((M+1:Nat):Int) * (-1):=Int.mul_le_mul_of_nonneg_left (by omega) (by omega)
   omega
  have k1:=Int.mul_nonneg (Int.le_of_lt hx') h2
  have k2:=Int.mul_nonneg (Int.le_of_lt hy') h3
  have k3:=Int.mul_nonneg (Int.le_of_lt hz') h4
  have:=Int.mul_neg_of_pos_of_neg hD' hdW
  omega),Int.zero_add]
 have hc:0 < F.count f0:=List.count_pos_iff.2 hf0
 exact Int.mul_ne_zero (by omega) hne
theorem Zga {A r:Int} (hA:0≤A) (h1:-65535≤r) (h2:r≤65535):-(65535 * A)≤A * r∧A * r≤65535 * A:=by
 have a:=Int.mul_le_mul_of_nonneg_left h1 hA
 have b:=Int.mul_le_mul_of_nonneg_left h2 hA
 omega
theorem Z7h {s0 s1 s2 g0 g1 g2:Int} (hs0:1000≤s0) (hs1:1000≤s1) (hs2:1000≤s2) (h0:0≤g0∧g0≤2040) (h1:0≤g1∧g1≤2040) (h2:0≤g2∧g2≤2040) :
  ∃ (u0 u1 u2:V3) (Q:Int),0 < Q∧∀ (d0 d1 d2 r0 r1 r2:Int) (V:V3),(-65535≤r0∧r0≤65535)→(-65535≤r1∧r1≤65535)→(-65535≤r2∧r2≤65535) →
    65535 * V.x=100000 * (s0 * d0+g0 * d1)+r0→65535 * V.y=256000 * (s1 * d1+g1 * d2)+r1→65535 * V.z=256000 * (s2 * d2+g2 * d0)+r2 →
    (-Q≤65535 * u0.dot V - 250 * (Q * d0)∧65535 * u0.dot V - 250 * (Q * d0)≤Q)∧(-Q≤65535 * u1.dot V - 250 * (Q * d1)∧65535 * u1.dot V - 250 * (Q * d1)≤Q)∧(-Q≤65535 * u2.dot V - 250 * (Q * d2)∧65535 * u2.dot V - 250 * (Q * d2)≤Q):=by
 have p:∀ {x y:Int},0≤x→0≤y→0≤x * y:=fun hx hy=>Int.mul_nonneg hx hy
 have m:∀ {x y z w:Int},x≤y→z≤w→0≤z→0≤y→x * z≤y * w:=fun h1 h2 h3 h4=>Int.mul_le_mul h1 h2 h3 h4
 have hA:=p (show 0≤s1 by omega) (show 0≤s2 by omega)
 have hB:=p h1.1 h2.1
 have hC:=p (show 0≤s1 by omega) h2.1
 have hE:=p h0.1 (show 0≤s2 by omega)
 have hF:=p (show 0≤s0 by omega) (show 0≤s2 by omega)
 have hG:=p h0.1 h2.1
 have hH:=p h0.1 h1.1
 have hI:=p (show 0≤s0 by omega) h1.1
 have hJ:=p (show 0≤s0 by omega) (show 0≤s1 by omega)
 have hg3:=p hH h2.1
 -- the products against the determinant
 have qA:1000 * (s1 * s2)≤s0 * s1 * s2:=by rw [Int.mul_assoc];exact Int.mul_le_mul_of_nonneg_right hs0 hA
 have qF:1000 * (s0 * s2)≤s0 * s1 * s2:=by rw [show s0 * s1 * s2=s1 * (s0 * s2) by grind];exact Int.mul_le_mul_of_nonneg_right hs1 hF
 have qJ:1000 * (s0 * s1)≤s0 * s1 * s2:=by rw [show s0 * s1 * s2=s2 * (s0 * s1) by grind];exact Int.mul_le_mul_of_nonneg_right hs2 hJ
 have j1:1000000≤s0 * s1:=m (x:=1000) (z:=1000) hs0 hs1 (by decide) (by omega)
 have j2:1000000≤s1 * s2:=m (x:=1000) (z:=1000) hs1 hs2 (by decide) (by omega)
 have j3:1000000≤s0 * s2:=m (x:=1000) (z:=1000) hs0 hs2 (by decide) (by omega)
 have qE:490 * (g0 * s2)≤s0 * s1 * s2:=by rw [← Int.mul_assoc];exact Int.mul_le_mul_of_nonneg_right (by omega) (by omega)
 have qC:490 * (s1 * g2)≤s0 * s1 * s2:=by rw [show s0 * s1 * s2=(s0 * s2) * s1 by grind,show 490 * (s1 * g2)=(490 * g2) * s1 by grind];exact Int.mul_le_mul_of_nonneg_right (by omega) (by omega)
 have qI:490 * (s0 * g1)≤s0 * s1 * s2:=by rw [show s0 * s1 * s2=(s1 * s2) * s0 by grind,show 490 * (s0 * g1)=(490 * g1) * s0 by grind];exact Int.mul_le_mul_of_nonneg_right (by omega) (by omega)
 have j4:1000000000≤s0 * s1 * s2:=m (x:=1000000) (z:=1000) j1 hs2 (by decide) (by omega)
 have b0:g1 * g2≤2040 * 2040:=m h1.2 h2.2 h2.1 (by decide)
 have b1:g0 * g2≤2040 * 2040:=m h0.2 h2.2 h2.1 (by decide)
 have b2:g0 * g1≤2040 * 2040:=m h0.2 h1.2 h1.1 (by decide)
 refine ⟨⟨64 * (s1 * s2),-(25 * (g0 * s2)),25 * (g0 * g1)⟩,⟨64 * (g1 * g2),25 * (s0 * s2),-(25 * (s0 * g1))⟩,⟨-(64 * (s1 * g2)),25 * (g0 * g2),25 * (s0 * s1)⟩,25600 * (s0 * s1 * s2+g0 * g1 * g2),by omega,?_⟩
 intro d0 d1 d2 r0 r1 r2 V hr0 hr1 hr2 e0 e1 e2
 obtain ⟨x,y,z⟩:=V
 simp only at e0 e1 e2
 simp only [V3.dot]
 have f0:65535 * (64 * (s1 * s2) * x+-(25 * (g0 * s2)) * y+25 * (g0 * g1) * z) - 250 * (25600 * (s0 * s1 * s2+g0 * g1 * g2) * d0)=64 * (s1 * s2 * r0) - 25 * (g0 * s2 * r1)+25 * (g0 * g1 * r2):=by grind
 have f1:65535 * (64 * (g1 * g2) * x+25 * (s0 * s2) * y+-(25 * (s0 * g1)) * z) - 250 * (25600 * (s0 * s1 * s2+g0 * g1 * g2) * d1)=64 * (g1 * g2 * r0)+25 * (s0 * s2 * r1) - 25 * (s0 * g1 * r2):=by grind
 have f2:65535 * (-(64 * (s1 * g2)) * x+25 * (g0 * g2) * y+25 * (s0 * s1) * z) - 250 * (25600 * (s0 * s1 * s2+g0 * g1 * g2) * d2)=-(64 * (s1 * g2 * r0))+25 * (g0 * g2 * r1)+25 * (s0 * s1 * r2):=by grind
 rw [f0,f1,f2]
 have a0:=Zga hA hr0.1 hr0.2
 have a1:=Zga hE hr1.1 hr1.2
 have a2:=Zga hH hr2.1 hr2.2
 have a3:=Zga hB hr0.1 hr0.2
 have a4:=Zga hF hr1.1 hr1.2
 have a5:=Zga hI hr2.1 hr2.2
 have a6:=Zga hC hr0.1 hr0.2
 have a7:=Zga hG hr1.1 hr1.2
 have a8:=Zga hJ hr2.1 hr2.2
 clear f0 f1 f2 e0 e1 e2 hr0 hr1 hr2 j1 j2 j3 p m hs0 hs1 hs2 h0 h1 h2
 generalize s1 * s2 * r0=t0 at *
 generalize g0 * s2 * r1=t1 at *
 generalize g0 * g1 * r2=t2 at *
 generalize g1 * g2 * r0=t3 at *
 generalize s0 * s2 * r1=t4 at *
 generalize s0 * g1 * r2=t5 at *
 generalize s1 * g2 * r0=t6 at *
 generalize g0 * g2 * r1=t7 at *
 generalize s0 * s1 * r2=t8 at *
 generalize s0 * s1 * s2=S at *
 generalize g0 * g1 * g2=G at *
 generalize s1 * s2=cA at *
 generalize g1 * g2=cB at *
 generalize s1 * g2=cC at *
 generalize g0 * s2=cE at *
 generalize s0 * s2=cF at *
 generalize g0 * g2=cG at *
 generalize g0 * g1=cH at *
 generalize s0 * g1=cI at *
 generalize s0 * s1=cJ at *
 refine ⟨⟨?_,?_⟩,⟨?_,?_⟩,?_,?_⟩<;>omega
end Go.Sx
namespace Go.Sx
open Go Go.Proofs.YtbfgldlfciimiaaGreatDoor
theorem Z24 {n m:Int}:∃ r,(-65535≤r∧r≤65535)∧65535 * (nearI n 100000 - nearI m 100000)=100000 * (n - m)+r:=⟨65535 * (nearI n 100000 - nearI m 100000) - 100000 * (n - m),by unfold nearI;omega,by omega⟩
theorem Zox {n m:Int}:∃ r,(-65535≤r∧r≤65535)∧65535 * (nearI n 256000 - 128000 - (nearI m 256000 - 128000))=256000 * (n - m)+r:=⟨65535 * (nearI n 256000 - 128000 - (nearI m 256000 - 128000)) - 256000 * (n - m),by unfold nearI;omega,by omega⟩
theorem Zvo {s g a b c d:Int}:(8000+s * a+g * b) - (8000+s * c+g * d)=s * (a - c)+g * (b - d):=by
 rw [Int.mul_sub,Int.mul_sub];omega
theorem Z7g {q:D37} (h:q.ok):∃ (u:Nat→V3) (Q:Int),0 < Q∧∀ (x y:V3) (r:Nat),r < 3→-Q≤65535 * (u r).dot ((phi q y).sub (phi q x)) - 250 * (Q * (comp y r - comp x r))∧65535 * (u r).dot ((phi q y).sub (phi q x)) - 250 * (Q * (comp y r - comp x r))≤Q:=by
 obtain ⟨ht,⟨a0,a1⟩,⟨a2,a3⟩,⟨a4,a5⟩,b0,b1,b2⟩:=h
 obtain ⟨u0,u1,u2,Q,hQ,hl⟩:=Z7h (s0:=q.s0) (s1:=q.s1) (s2:=q.s2) (g0:=8 * q.h0) (g1:=8 * q.h1) (g2:=8 * q.h2) (by omega) (by omega) (by omega) (by omega) (by omega) (by omega)
 have key:∀ x y:V3,(-Q≤65535 * u0.dot ((phi q y).sub (phi q x)) - 250 * (Q * (comp y (ordT q.t 0) - comp x (ordT q.t 0)))∧65535 * u0.dot ((phi q y).sub (phi q x)) - 250 * (Q * (comp y (ordT q.t 0) - comp x (ordT q.t 0)))≤Q) ∧
   (-Q≤65535 * u1.dot ((phi q y).sub (phi q x)) - 250 * (Q * (comp y (ordT q.t 1) - comp x (ordT q.t 1)))∧65535 * u1.dot ((phi q y).sub (phi q x)) - 250 * (Q * (comp y (ordT q.t 1) - comp x (ordT q.t 1)))≤Q) ∧
   (-Q≤65535 * u2.dot ((phi q y).sub (phi q x)) - 250 * (Q * (comp y (ordT q.t 2) - comp x (ordT q.t 2)))∧65535 * u2.dot ((phi q y).sub (phi q x)) - 250 * (Q * (comp y (ordT q.t 2) - comp x (ordT q.t 2)))≤Q):=by
  intro x y
  obtain ⟨r0,hr0,e0⟩:=Z24 (n:=(q.out y).x) (m:=(q.out x).x)
  obtain ⟨r1,hr1,e1⟩:=Zox (n:=(q.out y).y) (m:=(q.out x).y)
  obtain ⟨r2,hr2,e2⟩:=Zox (n:=(q.out y).z) (m:=(q.out x).z)
  refine hl _ _ _ r0 r1 r2 _ hr0 hr1 hr2 ?_ ?_ ?_
  ·refine Eq.trans e0 ?_
   have k:=Zvo (s:=(q.s0:Int)) (g:=8 * (q.h0:Int)) (a:=comp y (ordT q.t 0)) (b:=comp y (ordT q.t 1)) (c:=comp x (ordT q.t 0)) (d:=comp x (ordT q.t 1))
   exact congrArg (fun z=>100000 * z+r0) k
  ·refine Eq.trans e1 ?_
   have k:=Zvo (s:=(q.s1:Int)) (g:=8 * (q.h1:Int)) (a:=comp y (ordT q.t 1)) (b:=comp y (ordT q.t 2)) (c:=comp x (ordT q.t 1)) (d:=comp x (ordT q.t 2))
   exact congrArg (fun z=>256000 * z+r1) k
  ·refine Eq.trans e2 ?_
   have k:=Zvo (s:=(q.s2:Int)) (g:=8 * (q.h2:Int)) (a:=comp y (ordT q.t 2)) (b:=comp y (ordT q.t 0)) (c:=comp x (ordT q.t 2)) (d:=comp x (ordT q.t 0))
   exact congrArg (fun z=>256000 * z+r2) k
 clear hl
 have pick:∀ (o0 o1 o2:Nat),ordT q.t 0=o0→ordT q.t 1=o1→ordT q.t 2=o2→(∀ r,r < 3→r=o0∨r=o1∨r=o2)→o0≠o1→o0≠o2→o1≠o2→∃ (u:Nat→V3) (Q:Int),0 < Q∧∀ (x y:V3) (r:Nat),r < 3→-Q≤65535 * (u r).dot ((phi q y).sub (phi q x)) - 250 * (Q * (comp y r - comp x r))∧65535 * (u r).dot ((phi q y).sub (phi q x)) - 250 * (Q * (comp y r - comp x r))≤Q:=by
  intro o0 o1 o2 e0 e1 e2 hr h01 h02 h12
  refine ⟨fun r=>if r=o0 then u0 else if r=o1 then u1 else u2,Q,hQ,fun x y r h3=>?_⟩
  have k:=key x y
  rw [e0,e1,e2] at k
  dsimp only
  rcases hr r h3 with rfl|rfl|rfl
  ·rw [if_pos rfl];exact k.1
  ·rw [if_neg h01.symm,if_pos rfl];exact k.2.1
  ·rw [if_neg h02.symm,if_neg h12.symm];exact k.2.2
 have h6:q.t=0∨q.t=1∨q.t=2∨q.t=3∨q.t=4∨q.t=5:=by omega
 rcases h6 with e|e|e|e|e|e<;>rw [e] at pick
 ·exact pick 0 1 2 rfl rfl rfl (fun r h=>by omega) (by decide) (by decide) (by decide)
 ·exact pick 1 0 2 rfl rfl rfl (fun r h=>by omega) (by decide) (by decide) (by decide)
 ·exact pick 0 2 1 rfl rfl rfl (fun r h=>by omega) (by decide) (by decide) (by decide)
 ·exact pick 2 1 0 rfl rfl rfl (fun r h=>by omega) (by decide) (by decide) (by decide)
 ·exact pick 1 2 0 rfl rfl rfl (fun r h=>by omega) (by decide) (by decide) (by decide)
 ·exact pick 2 0 1 rfl rfl rfl (fun r h=>by omega) (by decide) (by decide) (by decide)
def NAs:List V3:=[⟨0,1,0⟩,⟨0,0,-1⟩,⟨-1,0,0⟩,⟨0,-1,-1⟩,⟨1,0,-1⟩,⟨0,-2,-1⟩,⟨-2,-1,0⟩,⟨2,0,-1⟩,⟨0,4,1⟩,⟨-4,0,1⟩,⟨4,-4,-3⟩]
def N6s:List V3:=[⟨1,0,0⟩,⟨-1,0,0⟩,⟨0,1,0⟩,⟨0,-1,0⟩,⟨0,0,1⟩,⟨0,0,-1⟩]
def sgK (c k:Nat):Int:=if k+2=c then 1 else -1
def sideK (s:Int) (x n v:V3):Bool:=decide (1≤s * (n.x * (v.x - x.x)+n.y * (v.y - x.y)+n.z * (v.z - x.z)))
def moved (s:Int) (x v:V3):V3:=⟨x.x+s * v.x,x.y+s * v.y,x.z+s * v.z⟩
def seenK (s:Int) (x:V3) (f:V3 × V3 × V3):Bool :=
 decide (f=(moved s x ⟨0,-1,1⟩,moved s x ⟨1,0,1⟩,moved s x ⟨0,0,1⟩))||decide (f=(moved s x ⟨0,-1,1⟩,moved s x ⟨0,0,1⟩,moved s x ⟨1,0,1⟩)) ||
 decide (f=(moved s x ⟨1,0,1⟩,moved s x ⟨0,0,1⟩,moved s x ⟨0,-1,1⟩))||decide (f=(moved s x ⟨1,0,1⟩,moved s x ⟨0,-1,1⟩,moved s x ⟨0,0,1⟩))
def certK (a b c i j k:Nat):Bool :=
 ((shellN a b c).all fun f=>N6s.any fun n=>allJ (sideK 1 ⟨i,j,k⟩ n) f) &&
 (shellN a b c).any fun f0=>seenK (sgK c k) ⟨i,j,k⟩ f0&&(shellN a b c).all fun f=>decide (f=f0)||NAs.any fun n=>allJ (sideK (sgK c k) ⟨i,j,k⟩ n) f
set_option maxRecDepth 100000 in
set_option maxHeartbeats 4000000 in
theorem Z8f:∀ s,s < 144→(decide (s / 12 % 3 < s % 3+1)&&decide (s / 36 % 2 < s / 3 % 2+1)&&decide (s / 72 % 2 < s / 6 % 2+1))=true→certK (3+s % 3) (3+s / 3 % 2) (3+s / 6 % 2) (1+s / 12 % 3) (1+s / 36 % 2) (1+s / 72 % 2)=true:=by decide +kernel
theorem Sz.cert {a b c i j k:Nat} (h:Sz a b c) (hi:0 < i∧i+1 < a) (hj:0 < j∧j+1 < b) (hk:0 < k∧k+1 < c):certK a b c i j k=true:=by
 obtain ⟨h1,h2,h3,h4,h5,h6⟩:=h
 have:=Z8f ((a - 3)+3 * ((b - 3)+2 * ((c - 3)+2 * ((i - 1)+3 * ((j - 1)+2 * (k - 1)))))) (by omega)
 obtain ⟨s,hs⟩:∃ s,s=(a - 3)+3 * ((b - 3)+2 * ((c - 3)+2 * ((i - 1)+3 * ((j - 1)+2 * (k - 1))))):=⟨_,rfl⟩
 rw [← hs] at this
 have e1:s % 3=a - 3:=by omega
 have e2:s / 3 % 2=b - 3:=by omega
 have e3:s / 6 % 2=c - 3:=by omega
 have e4:s / 12 % 3=i - 1:=by omega
 have e5:s / 36 % 2=j - 1:=by omega
 have e6:s / 72 % 2=k - 1:=by omega
 rw [e1,e2,e3,e4,e5,e6] at this
 have:=this (by simp only [Bool.and_eq_true,decide_eq_true_eq];omega)
 rwa [show 3+(a - 3)=a by omega,show 3+(b - 3)=b by omega,show 3+(c - 3)=c by omega,show 1+(i - 1)=i by omega,show 1+(j - 1)=j by omega,show 1+(k - 1)=k by omega] at this
end Go.Sx
namespace Go.Sx
open Go Go.Proofs.YtbfgldlfciimiaaGreatDoor
theorem Zq7 {a b c w1 w2 w3:V3} {Q:Int} (hQ:0 < Q) (a1:238 * Q≤65535 * w1.dot a∧65535 * w1.dot a≤262 * Q) (b1:-(12 * Q)≤65535 * w1.dot b∧65535 * w1.dot b≤12 * Q) (c1:-(12 * Q)≤65535 * w1.dot c∧65535 * w1.dot c≤12 * Q)
  (a2:-(12 * Q)≤65535 * w2.dot a∧65535 * w2.dot a≤12 * Q) (b2:238 * Q≤65535 * w2.dot b∧65535 * w2.dot b≤262 * Q) (c2:-(12 * Q)≤65535 * w2.dot c∧65535 * w2.dot c≤12 * Q)
  (a3:-(12 * Q)≤65535 * w3.dot a∧65535 * w3.dot a≤12 * Q) (b3:-(12 * Q)≤65535 * w3.dot b∧65535 * w3.dot b≤12 * Q) (c3:238 * Q≤65535 * w3.dot c∧65535 * w3.dot c≤262 * Q):det3 a b c≠0:=by
 intro h0
 have e:w1.dot a * (w2.dot b * w3.dot c - w2.dot c * w3.dot b) - w1.dot b * (w2.dot a * w3.dot c - w2.dot c * w3.dot a)+w1.dot c * (w2.dot a * w3.dot b - w2.dot b * w3.dot a)=det3 w1 w2 w3 * det3 a b c:=by
  simp only [det3,V3.dot,V3.cross];grind
 rw [h0,Int.mul_zero] at e
 obtain ⟨A1,hA1⟩:∃ z,z=65535 * w1.dot a:=⟨_,rfl⟩
 obtain ⟨B1,hB1⟩:∃ z,z=65535 * w1.dot b:=⟨_,rfl⟩
 obtain ⟨C1,hC1⟩:∃ z,z=65535 * w1.dot c:=⟨_,rfl⟩
 obtain ⟨A2,hA2⟩:∃ z,z=65535 * w2.dot a:=⟨_,rfl⟩
 obtain ⟨B2,hB2⟩:∃ z,z=65535 * w2.dot b:=⟨_,rfl⟩
 obtain ⟨C2,hC2⟩:∃ z,z=65535 * w2.dot c:=⟨_,rfl⟩
 obtain ⟨A3,hA3⟩:∃ z,z=65535 * w3.dot a:=⟨_,rfl⟩
 obtain ⟨B3,hB3⟩:∃ z,z=65535 * w3.dot b:=⟨_,rfl⟩
 obtain ⟨C3,hC3⟩:∃ z,z=65535 * w3.dot c:=⟨_,rfl⟩
 have e':A1 * (B2 * C3 - C2 * B3) - B1 * (A2 * C3 - C2 * A3)+C1 * (A2 * B3 - B2 * A3)=0:=by
  rw [hA1,hB1,hC1,hA2,hB2,hC2,hA3,hB3,hC3]
  have:65535 * w1.dot a * (65535 * w2.dot b * (65535 * w3.dot c) - 65535 * w2.dot c * (65535 * w3.dot b)) - 65535 * w1.dot b * (65535 * w2.dot a * (65535 * w3.dot c) - 65535 * w2.dot c * (65535 * w3.dot a))+65535 * w1.dot c * (65535 * w2.dot a * (65535 * w3.dot b) - 65535 * w2.dot b * (65535 * w3.dot a))=65535 * (65535 * (65535 * (w1.dot a * (w2.dot b * w3.dot c - w2.dot c * w3.dot b) - w1.dot b * (w2.dot a * w3.dot c - w2.dot c * w3.dot a)+w1.dot c * (w2.dot a * w3.dot b - w2.dot b * w3.dot a)))):=by grind
  rw [this,e];rfl
 rw [← hA1] at a1
 rw [← hB1] at b1
 rw [← hC1] at c1
 rw [← hA2] at a2
 rw [← hB2] at b2
 rw [← hC2] at c2
 rw [← hA3] at a3
 rw [← hB3] at b3
 rw [← hC3] at c3
 clear e hA1 hB1 hC1 hA2 hB2 hC2 hA3 hB3 hC3 h0
 have hQ2:0 < Q * Q:=Int.mul_pos hQ hQ
 have q1:238 * Q * (238 * Q)=56644 * (Q * Q):=by grind
 have q2:12 * Q * (12 * Q)=144 * (Q * Q):=by grind
 have q3:12 * Q * (262 * Q)=3144 * (Q * Q):=by grind
 have q4:262 * Q * (12 * Q)=3144 * (Q * Q):=by grind
 have m1:=Int.mul_le_mul b2.1 c3.1 (by omega) (by omega)
 have m2:=Za5 (m:=12 * Q) (n:=12 * Q) (by omega) (by omega) c2.1 c2.2 b3.1 b3.2
 have m3:=Za5 (m:=12 * Q) (n:=262 * Q) (by omega) (by omega) a2.1 a2.2 (show -(262 * Q)≤C3 by omega) c3.2
 have m4:=Za5 (m:=12 * Q) (n:=12 * Q) (by omega) (by omega) c2.1 c2.2 a3.1 a3.2
 have m5:=Za5 (m:=12 * Q) (n:=12 * Q) (by omega) (by omega) a2.1 a2.2 b3.1 b3.2
 have m6:=Za5 (m:=262 * Q) (n:=12 * Q) (by omega) (by omega) (show -(262 * Q)≤B2 by omega) b2.2 a3.1 a3.2
 rw [q1] at m1
 rw [q2] at m2 m4 m5
 rw [q3] at m3
 rw [q4] at m6
 generalize B2 * C3=t1 at *
 generalize C2 * B3=t2 at *
 generalize A2 * C3=t3 at *
 generalize C2 * A3=t4 at *
 generalize A2 * B3=t5 at *
 generalize B2 * A3=t6 at *
 have n1:=Int.mul_le_mul a1.1 (show 56500 * (Q * Q)≤t1 - t2 by omega) (by omega) (by omega)
 have n2:=Za5 (m:=12 * Q) (n:=3288 * (Q * Q)) (by omega) (by omega) b1.1 b1.2 (show -(3288 * (Q * Q))≤t3 - t4 by omega) (by omega)
 have n3:=Za5 (m:=12 * Q) (n:=3288 * (Q * Q)) (by omega) (by omega) c1.1 c1.2 (show -(3288 * (Q * Q))≤t5 - t6 by omega) (by omega)
 have r1:238 * Q * (56500 * (Q * Q))=13447000 * (Q * (Q * Q)):=by grind
 have r2:12 * Q * (3288 * (Q * Q))=39456 * (Q * (Q * Q)):=by grind
 have hQ3:0 < Q * (Q * Q):=Int.mul_pos hQ hQ2
 rw [r1] at n1
 rw [r2] at n2 n3
 omega
def wK (u:Nat→V3) (s:Int) (n:V3):V3:=⟨s * (n.x * (u 0).x+n.y * (u 1).x+n.z * (u 2).x),s * (n.x * (u 0).y+n.y * (u 1).y+n.z * (u 2).y),s * (n.x * (u 0).z+n.y * (u 1).z+n.z * (u 2).z)⟩
theorem Ygo {u:Nat→V3} {Q:Int} (hQ:0 < Q) {V:V3} {d0 d1 d2 s:Int} {n:V3} (hs:s=1∨s=-1) (h0:-Q≤65535 * (u 0).dot V - 250 * (Q * d0)∧65535 * (u 0).dot V - 250 * (Q * d0)≤Q) (h1:-Q≤65535 * (u 1).dot V - 250 * (Q * d1)∧65535 * (u 1).dot V - 250 * (Q * d1)≤Q) (h2:-Q≤65535 * (u 2).dot V - 250 * (Q * d2)∧65535 * (u 2).dot V - 250 * (Q * d2)≤Q)
  (nx:-4≤n.x∧n.x≤4) (ny:-4≤n.y∧n.y≤4) (nz:-4≤n.z∧n.z≤4):250 * (Q * (s * (n.x * d0+n.y * d1+n.z * d2))) - 12 * Q≤65535 * (wK u s n).dot V∧65535 * (wK u s n).dot V≤250 * (Q * (s * (n.x * d0+n.y * d1+n.z * d2)))+12 * Q:=by
 obtain ⟨nx',ny',nz'⟩:=n
 simp only at nx ny nz
 have e:65535 * (wK u s ⟨nx',ny',nz'⟩).dot V=s * (nx' * (65535 * (u 0).dot V - 250 * (Q * d0))+ny' * (65535 * (u 1).dot V - 250 * (Q * d1))+nz' * (65535 * (u 2).dot V - 250 * (Q * d2)))+250 * (Q * (s * (nx' * d0+ny' * d1+nz' * d2))):=by
  simp only [wK,V3.dot];grind
 have m0:=Za5 (m:=4) (n:=Q) (by omega) (by omega) nx.1 nx.2 h0.1 h0.2
 have m1:=Za5 (m:=4) (n:=Q) (by omega) (by omega) ny.1 ny.2 h1.1 h1.2
 have m2:=Za5 (m:=4) (n:=Q) (by omega) (by omega) nz.1 nz.2 h2.1 h2.2
 rw [e]
 generalize nx' * (65535 * (u 0).dot V - 250 * (Q * d0))=t0 at *
 generalize ny' * (65535 * (u 1).dot V - 250 * (Q * d1))=t1 at *
 generalize nz' * (65535 * (u 2).dot V - 250 * (Q * d2))=t2 at *
 simp only
 generalize Q * (s * (nx' * d0+ny' * d1+nz' * d2))=t3 at *
 rcases hs with rfl|rfl<;>omega
end Go.Sx
