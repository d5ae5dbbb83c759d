/- Plain: which nodes of a drafted grid without shears lie in its shell, and which on it. -/
import Derived.Test.YtgapnfaakdjpaaaGreatDoorIh1
import Derived.Test.YtgapnfaakdjpaaaGreatDoorLs6
namespace Go.Sx
open Go Go.Proofs.YtgapnfaakdjpaaaGreatDoor
def quadN (fwd:Bool) (p q r s:V3):List (V3 × V3 × V3):=if fwd then [(p,q,r),(p,r,s)] else [(p,r,q),(p,s,r)]
def sideN (ax e:Nat) (fwd:Bool) (nv n:Nat):List (V3 × V3 × V3):=(List.range n).flatMap fun t=>quadN fwd (nodeAt ax e (t / nv) (t % nv)) (nodeAt ax e (t / nv+1) (t % nv)) (nodeAt ax e (t / nv+1) (t % nv+1)) (nodeAt ax e (t / nv) (t % nv+1))
def shellN (a b c:Nat):List (V3 × V3 × V3):=(List.range 6).flatMap fun s=>sideN (s / 2) (s % 2 * (size3 a b c (s / 2) - 1)) (fwdS (s / 2) (s % 2)) (size3 a b c (ax2 (s / 2)) - 1) ((size3 a b c (ax1 (s / 2)) - 1) * (size3 a b c (ax2 (s / 2)) - 1))
def posF (L:List V3) (x:V3 × V3 × V3):V3:=⟨posN L x.1,posN L x.2.1,posN L x.2.2⟩
theorem shellN_eq {a b c:Nat}:shellF a b c=(shellN a b c).map (posF (nodesF a b c)):=by
  unfold shellF sidesP shellN
  rw [List.map_flatMap]
  congr 1
  funext s
  unfold sideF sideP sideN
  rw [List.map_flatMap]
  congr 1
  funext t
  unfold quadAt quadF quadN
  split<;>rfl
theorem shellN_mem {a b c:Nat} (ha:2≤a) (hb:2≤b) (hc:2≤c) {x:V3 × V3 × V3} (h:x∈shellN a b c):x.1∈nodesF a b c∧x.2.1∈nodesF a b c∧x.2.2∈nodesF a b c:=by
  unfold shellN at h
  obtain ⟨s,hs,hf⟩:=List.mem_flatMap.1 h
  have hs:=List.mem_range.1 hs
  unfold sideN at hf
  obtain ⟨n,hn,hf⟩:=List.mem_flatMap.1 hf
  have hn:=List.mem_range.1 hn
  have hax:s / 2 < 3:=by omega
  have hen:s % 2 < 2:=Nat.mod_lt _ (by omega)
  have h2:∀ x,2≤size3 a b c x:=fun x=>by
    unfold size3
    split
    · exact ha
    · split
      · exact hb
      · exact hc
  have s1:=h2 (ax1 (s / 2))
  have s2:=h2 (ax2 (s / 2))
  generalize hnv:size3 a b c (ax2 (s / 2)) - 1=nv at hn hf
  generalize hnu:size3 a b c (ax1 (s / 2)) - 1=nu at hn
  have hv:n % nv < nv:=Nat.mod_lt _ (by omega)
  have hu:n / nv < nu:=by rw [Nat.div_lt_iff_lt_mul (by omega)];exact hn
  generalize hU:n / nv=u at hf hu
  generalize hV:n % nv=v at hf hv
  have mm:∀ u v,u < size3 a b c (ax1 (s / 2))→v < size3 a b c (ax2 (s / 2))→nodeAt (s / 2) (s % 2 * (size3 a b c (s / 2) - 1)) u v∈nodesF a b c:=fun u v h1 h2=>corner_mem hax hen ha hb hc h1 h2
  have m1:=mm u v (by omega) (by omega)
  have m2:=mm (u+1) v (by omega) (by omega)
  have m3:=mm (u+1) (v+1) (by omega) (by omega)
  have m4:=mm u (v+1) (by omega) (by omega)
  unfold quadN at hf
  split at hf
  · simp only [List.mem_cons,List.not_mem_nil,or_false] at hf
    rcases hf with rfl|rfl
    · exact ⟨m1,m2,m3⟩
    · exact ⟨m1,m3,m4⟩
  · simp only [List.mem_cons,List.not_mem_nil,or_false] at hf
    rcases hf with rfl|rfl
    · exact ⟨m1,m3,m2⟩
    · exact ⟨m1,m4,m3⟩
theorem pos_pt {a b c:Nat} {x:V3} (h:x∈nodesF a b c):ptAt (nodesF a b c) (posN (nodesF a b c) x:Nat)=x:=by
  obtain ⟨p1,p2⟩:=posN_mem (nodes_nodup a b c (a * b * c)) h
  unfold ptAt
  rw [Int.toNat_natCast]
  have p1':(nodesF a b c)[posN (nodesF a b c) x]?=some x:=p1
  rw [p1'];rfl
def sz (a b c t o:Nat):Int:=(size3 a b c (ordT t o):Int) - 1
def jo (t o:Nat) (x:V3):Int:=comp x (ordT t o)
def allJ (q:V3→Bool) (x:V3 × V3 × V3):Bool:=q x.1&&(q x.2.1&&q x.2.2)
def inBJ (a b c t:Nat) (x:V3):Bool:=decide (0≤jo t 0 x)&&decide (jo t 0 x≤sz a b c t 0)&&(decide (0≤jo t 1 x)&&decide (jo t 1 x≤sz a b c t 1))&&(decide (0≤jo t 2 x)&&decide (jo t 2 x≤sz a b c t 2))
def wallJ (a b c t:Nat) (x:V3 × V3 × V3):Bool :=
  (allJ (fun y=>decide (jo t 0 y=0)) x||allJ (fun y=>decide (jo t 0 y=sz a b c t 0)) x)||((allJ (fun y=>decide (jo t 1 y=0)) x||allJ (fun y=>decide (jo t 1 y=sz a b c t 1)) x)||(allJ (fun y=>decide (jo t 2 y=0)) x||allJ (fun y=>decide (jo t 2 y=sz a b c t 2)) x))
def at12 (t:Nat) (y:V3) (j k:Int):Bool:=decide (jo t 1 y=j)&&decide (jo t 2 y=k)
def seenJ (a b c t:Nat) (x:V3 × V3 × V3):Bool :=
  allJ (fun y=>decide (jo t 0 y=sz a b c t 0)) x&&at12 t x.1 0 0&&((at12 t x.2.1 1 0&&at12 t x.2.2 1 1)||(at12 t x.2.1 1 1&&at12 t x.2.2 1 0))
def behindJ (a b c t:Nat) (x:V3 × V3 × V3):Bool :=
  allJ (fun y=>decide (jo t 0 y=0)) x||(allJ (fun y=>decide (jo t 1 y=0)) x||(allJ (fun y=>decide (jo t 2 y=0)) x||(allJ (fun y=>decide (jo t 1 y=sz a b c t 1)) x||(allJ (fun y=>decide (jo t 2 y=sz a b c t 2)) x ||
  (allJ (fun y=>decide (jo t 0 y=sz a b c t 0)) x&&(allJ (fun y=>decide (1≤jo t 1 y)) x||(allJ (fun y=>decide (1≤jo t 2 y)) x||allJ (fun y=>at12 t y 0 0||(at12 t y 1 1||at12 t y 0 1)) x)))))))
def holdB (a b c t:Nat):Bool :=
  ((shellN a b c).all fun x=>allJ (inBJ a b c t) x&&wallJ a b c t x)&&(shellN a b c).any fun x0=>seenJ a b c t x0&&(shellN a b c).all fun x=>decide (x=x0)||behindJ a b c t x
set_option maxRecDepth 100000 in
set_option maxHeartbeats 4000000 in
theorem hold_all:∀ s,s < 72→holdB (3+s % 3) (3+s / 3 % 2) (3+s / 6 % 2) (s / 12)=true:=by decide +kernel
def usedJ (a b c:Nat):Bool:=(nodesF a b c).all fun y=>(shellN a b c).any fun x=>decide (x.1=y)||(decide (x.2.1=y)||decide (x.2.2=y))
set_option maxRecDepth 100000 in
set_option maxHeartbeats 4000000 in
theorem used_all:∀ s,s < 36→usedJ (2+s % 4) (2+s / 4 % 3) (2+s / 12 % 3)=true:=by decide +kernel
theorem Sz.hold {a b c t:Nat} (h:Sz a b c) (ht:t < 6) (ha:3≤a) (hb:3≤b) (hc:3≤c):holdB a b c t=true:=by
  obtain ⟨h1,h2,h3,h4,h5,h6⟩:=h
  have:=hold_all ((a - 3)+3 * ((b - 3)+2 * ((c - 3)+2 * t))) (by omega)
  have e1:3+((a - 3)+3 * ((b - 3)+2 * ((c - 3)+2 * t))) % 3=a:=by omega
  have e2:3+((a - 3)+3 * ((b - 3)+2 * ((c - 3)+2 * t))) / 3 % 2=b:=by omega
  have e3:3+((a - 3)+3 * ((b - 3)+2 * ((c - 3)+2 * t))) / 6 % 2=c:=by omega
  have e4:((a - 3)+3 * ((b - 3)+2 * ((c - 3)+2 * t))) / 12=t:=by omega
  rwa [e1,e2,e3,e4] at this
theorem Sz.used {a b c:Nat} (h:Sz a b c):usedJ a b c=true:=by
  obtain ⟨h1,h2,h3,h4,h5,h6⟩:=h
  have:=used_all ((a - 2)+4 * ((b - 2)+3 * (c - 2))) (by omega)
  have e1:2+((a - 2)+4 * ((b - 2)+3 * (c - 2))) % 4=a:=by omega
  have e2:2+((a - 2)+4 * ((b - 2)+3 * (c - 2))) / 4 % 3=b:=by omega
  have e3:2+((a - 2)+4 * ((b - 2)+3 * (c - 2))) / 12 % 3=c:=by omega
  rwa [e1,e2,e3] at this
theorem allJ_iff {q:V3→Bool} {x:V3 × V3 × V3}:allJ q x=true↔q x.1=true∧q x.2.1=true∧q x.2.2=true:=by
  unfold allJ;simp only [Bool.and_eq_true]
structure Mono (t:Nat) (φ:V3→V3) (m:Nat→Int→Int):Prop where
  at_:∀ o,o < 3→∀ x,comp (φ x) o=m o (comp x (ordT t o))
  lt:∀ o,o < 3→∀ i j:Int,i < j→m o i < m o j
theorem Mono.le {t:Nat} {φ:V3→V3} {m:Nat→Int→Int} (h:Mono t φ m) {o:Nat} (ho:o < 3) {i j:Int} (hij:i≤j):m o i≤m o j:=by
  by_cases e:i=j
  · subst e;exact Int.le_refl _
  · exact Int.le_of_lt (h.lt o ho i j (by omega))
def seeV (m:Nat→Int→Int) (X j:V3):V3:=⟨m 0 j.x - m 0 X.x,m 1 j.y - m 1 X.y,m 2 j.z - m 2 X.z⟩
def jV (t:Nat) (x:V3):V3:=⟨jo t 0 x,jo t 1 x,jo t 2 x⟩
theorem Mono.rel {t:Nat} {φ:V3→V3} {m:Nat→Int→Int} (h:Mono t φ m) {a b c:Nat} {x y:V3} (hy:y∈nodesF a b c) :
    relV ((nodesF a b c).map φ) (φ x) (posN (nodesF a b c) y:Nat)=seeV m (jV t x) (jV t y):=by
  have hp:=posN_mem (nodes_nodup a b c (a * b * c)) hy
  have e:ptAt ((nodesF a b c).map φ) (posN (nodesF a b c) y:Nat)=φ y:=by
    rw [ptAt_map (by omega) (by have:=hp.2;exact_mod_cast this),pos_pt hy]
  have k0:=h.at_ 0 (by decide)
  have k1:=h.at_ 1 (by decide)
  have k2:=h.at_ 2 (by decide)
  unfold relV seeV jV jo
  rw [e]
  dsimp only
  rw [← k0,← k1,← k2,← k0,← k1,← k2]
  rfl
theorem sep_wall {X k β γ:Int} {a b c a' b' c':V3} (hX:0 < X) (ha:a.x=X) (hb:b.x=X) (hc:c.x=X)
    (h1:β * a.y+γ * a.z≤k) (h2:β * b.y+γ * b.z≤k) (h3:β * c.y+γ * c.z≤k) (h4:β * a.y+γ * a.z < k∨β * b.y+γ * b.z < k∨β * c.y+γ * c.z < k)
    (hx:(a'.x=X∧b'.x=X∧c'.x=X)∨(0≤k∧a'.x≤X∧b'.x≤X∧c'.x≤X)) (k1:k≤β * a'.y+γ * a'.z) (k2:k≤β * b'.y+γ * b'.z) (k3:k≤β * c'.y+γ * c'.z) :
    Sep ⟨-k,X * β,X * γ⟩ a b c a' b' c':=by
  have e:∀ v:V3,V3.dot ⟨-k,X * β,X * γ⟩ v=k * (X - v.x)+X * (β * v.y+γ * v.z - k):=fun v=>by simp only [V3.dot];grind
  have n1:∀ {q:Int},q≤0→X * q≤0:=fun {q} hq=>Int.mul_nonpos_of_nonneg_of_nonpos (Int.le_of_lt hX) hq
  have n2:∀ {q:Int},q < 0→X * q < 0:=fun {q} hq=>Int.mul_neg_of_pos_of_neg hX hq
  have n3:∀ {q:Int},0≤q→0≤X * q:=fun {q} hq=>Int.mul_nonneg (Int.le_of_lt hX) hq
  have f1:∀ {v:V3},(v.x=X∨(0≤k∧v.x≤X))→k≤β * v.y+γ * v.z→0≤V3.dot ⟨-k,X * β,X * γ⟩ v:=fun {v} hv hk=>by
    rw [e]
    have:=n3 (show 0≤β * v.y+γ * v.z - k by omega)
    rcases hv with hv|⟨hv0,hv⟩
    · rw [hv,Int.sub_self,Int.mul_zero];omega
    · have:=Int.mul_nonneg hv0 (show 0≤X - v.x by omega);omega
  refine ⟨⟨?_,?_,?_⟩,?_,f1 ?_ k1,f1 ?_ k2,f1 ?_ k3⟩
  · rw [e,ha,Int.sub_self,Int.mul_zero];have:=n1 (show β * a.y+γ * a.z - k≤0 by omega);omega
  · rw [e,hb,Int.sub_self,Int.mul_zero];have:=n1 (show β * b.y+γ * b.z - k≤0 by omega);omega
  · rw [e,hc,Int.sub_self,Int.mul_zero];have:=n1 (show β * c.y+γ * c.z - k≤0 by omega);omega
  · rcases h4 with h|h|h
    · refine .inl ?_;rw [e,ha,Int.sub_self,Int.mul_zero];have:=n2 (show β * a.y+γ * a.z - k < 0 by omega);omega
    · refine .inr (.inl ?_);rw [e,hb,Int.sub_self,Int.mul_zero];have:=n2 (show β * b.y+γ * b.z - k < 0 by omega);omega
    · refine .inr (.inr ?_);rw [e,hc,Int.sub_self,Int.mul_zero];have:=n2 (show β * c.y+γ * c.z - k < 0 by omega);omega
  · rcases hx with h|h
    · exact .inl h.1
    · exact .inr ⟨h.1,h.2.1⟩
  · rcases hx with h|h
    · exact .inl h.2.1
    · exact .inr ⟨h.1,h.2.2.1⟩
  · rcases hx with h|h
    · exact .inl h.2.2
    · exact .inr ⟨h.1,h.2.2.2⟩
theorem wall_det {X:Int} {a b c:V3} (ha:a.x=X) (hb:b.x=X) (hc:c.x=X):det3 a b c=X * ((b.y - a.y) * (c.z - a.z) - (b.z - a.z) * (c.y - a.y)):=by
  subst ha
  simp only [det3,V3.dot,V3.cross]
  rw [hb,hc]
  grind
variable {t a b c:Nat} {φ:V3→V3} {m:Nat→Int→Int} {x:V3}
def Within (a b c t:Nat) (x:V3):Prop:=∀ o,o < 3→0 < comp x (ordT t o)∧comp x (ordT t o) < sz a b c t o
theorem off_node (ha:2≤a) (hb2:2≤b) (hc:2≤c) (hm:Mono t φ m) (hg:Good ((nodesF a b c).map φ) (shellF a b c)) (hb:holdB a b c t=true) (hx:Within a b c t x):onM axP ((nodesF a b c).map φ) (shellF a b c) (φ x)=false:=by
  refine off_of hg fun f hf=>?_
  unfold holdB at hb
  rw [Bool.and_eq_true,List.all_eq_true] at hb
  rw [shellN_eq] at hf
  obtain ⟨y,hy,rfl⟩:=List.mem_map.1 hf
  have hw:=hb.1 y hy
  rw [Bool.and_eq_true] at hw
  have hw:=hw.2
  obtain ⟨i1,i2,i3⟩:=shellN_mem ha hb2 hc hy
  unfold posF
  dsimp only
  rw [hm.rel i1,hm.rel i2,hm.rel i3]
  have x0:=hx 0 (by decide)
  have x1:=hx 1 (by decide)
  have x2:=hx 2 (by decide)
  have l0:=hm.lt 0 (by decide)
  have l1:=hm.lt 1 (by decide)
  have l2:=hm.lt 2 (by decide)
  unfold wallJ at hw
  simp only [Bool.or_eq_true,allJ_iff,decide_eq_true_eq] at hw
  simp only [seeV,jV]
  rcases hw with (⟨e1,e2,e3⟩|⟨e1,e2,e3⟩)|(⟨e1,e2,e3⟩|⟨e1,e2,e3⟩)|⟨e1,e2,e3⟩|⟨e1,e2,e3⟩
  · have:=l0 _ _ x0.1
    refine ⟨⟨-1,0,0⟩,?_,?_,?_⟩<;>simp only [V3.dot,e1,e2,e3]<;>unfold jo<;>omega
  · have:=l0 _ _ x0.2
    refine ⟨⟨1,0,0⟩,?_,?_,?_⟩<;>simp only [V3.dot,e1,e2,e3]<;>unfold jo<;>omega
  · have:=l1 _ _ x1.1
    refine ⟨⟨0,-1,0⟩,?_,?_,?_⟩<;>simp only [V3.dot,e1,e2,e3]<;>unfold jo<;>omega
  · have:=l1 _ _ x1.2
    refine ⟨⟨0,1,0⟩,?_,?_,?_⟩<;>simp only [V3.dot,e1,e2,e3]<;>unfold jo<;>omega
  · have:=l2 _ _ x2.1
    refine ⟨⟨0,0,-1⟩,?_,?_,?_⟩<;>simp only [V3.dot,e1,e2,e3]<;>unfold jo<;>omega
  · have:=l2 _ _ x2.2
    refine ⟨⟨0,0,1⟩,?_,?_,?_⟩<;>simp only [V3.dot,e1,e2,e3]<;>unfold jo<;>omega
end Go.Sx
