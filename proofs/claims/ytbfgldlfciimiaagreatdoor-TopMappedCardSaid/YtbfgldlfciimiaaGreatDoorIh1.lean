/- Plain: a mesh winds round a point from which one of its faces is seen that no other face hides. -/
import Derived.Test.YtbfgldlfciimiaaGreatDoorIm1
import Derived.Test.YtbfgldlfciimiaaGreatDoorLs6
set_option maxHeartbeats 1000000
namespace Go.Sx
open Go
theorem Zqq {d a b c:V3} (h:hit3 d a b c≠0):∃ D x y z:Int,0 < D∧0 < x∧0 < y∧0 < z∧∀ w:V3,D * w.dot d=x * w.dot a+y * w.dot b+z * w.dot c:=by
 unfold hit3 hitS at h
 by_cases hc:det3 a b c≠0∧(det3 d b c).sign=(det3 a b c).sign∧(det3 d c a).sign=(det3 a b c).sign∧(det3 d a b).sign=(det3 a b c).sign
 ·obtain ⟨hD,h1,h2,h3⟩:=hc
  have e:∀ w:V3,det3 a b c * w.dot d=det3 d b c * w.dot a+det3 d c a * w.dot b+det3 d a b * w.dot c:=fun w=>by
   simp only [det3,V3.dot,V3.cross];grind
  rcases Int.lt_or_gt_of_ne hD with q|q
  ·have g:(det3 a b c).sign=-1:=Int.sign_eq_neg_one_of_neg q
   rw [g] at h1 h2 h3
   have t1:=Int.neg_of_sign_eq_neg_one h1
   have t2:=Int.neg_of_sign_eq_neg_one h2
   have t3:=Int.neg_of_sign_eq_neg_one h3
   refine ⟨-det3 a b c,-det3 d b c,-det3 d c a,-det3 d a b,by omega,by omega,by omega,by omega,fun w=>?_⟩
   have:=e w
   rw [Int.neg_mul,Int.neg_mul,Int.neg_mul,Int.neg_mul]
   omega
  ·have g:(det3 a b c).sign=1:=Int.sign_eq_one_of_pos q
   rw [g] at h1 h2 h3
   exact ⟨_,_,_,_,q,Int.pos_of_sign_eq_one h1,Int.pos_of_sign_eq_one h2,Int.pos_of_sign_eq_one h3,e⟩
 ·rw [if_neg hc] at h
  exact absurd rfl h
def Sep (w a b c a' b' c':V3):Prop:=(w.dot a≤0∧w.dot b≤0∧w.dot c≤0)∧(w.dot a < 0∨w.dot b < 0∨w.dot c < 0)∧0≤w.dot a'∧0≤w.dot b'∧0≤w.dot c'
theorem Zmw {g:V3→Int} {f0:V3}:∀ (F:List V3),(∀ f∈F,f≠f0→g f=0)→∀ s,F.foldl (fun s f=>s+g f) s=s+(F.count f0:Int) * g f0
 | [],_,s=>by simp
 | f :: F,h,s=>by
  rw [List.foldl_cons,Zmw F (fun x hx=>h x (List.mem_cons_of_mem _ hx)),List.count_cons]
  by_cases hf:f=f0
  ·subst hf
   rw [if_pos (by simp)]
   push_cast
   rw [Int.add_mul,Int.one_mul]
   omega
  ·rw [h f List.mem_cons_self hf,if_neg (by simpa using hf)]
   simp
theorem Z37 (a b c:V3):det3 ((a.plus b).plus c) b c=det3 a b c∧det3 ((a.plus b).plus c) c a=det3 a b c∧det3 ((a.plus b).plus c) a b=det3 a b c:=by
 simp only [det3,V3.dot,V3.cross,V3.plus]
 refine ⟨?_,?_,?_⟩<;>grind
theorem Z9a {P F:List V3} (hg:Good P F) {p:V3} (h:∀ f∈F,∃ w:V3,0 < w.dot (relV P p f.x)∧0 < w.dot (relV P p f.y)∧0 < w.dot (relV P p f.z)):onM axP P F p=false:=by
 cases ho:onM axP P F p with
 | false=>rfl
 | true =>
  obtain ⟨f,hf,x,y,z,hx,hy,hz,hs,he⟩:=(Zd6 hg).1 ho
  obtain ⟨w,h1,h2,h3⟩:=h f hf
  exfalso
  generalize relV P p f.x=a at *
  generalize relV P p f.y=b at *
  generalize relV P p f.z=c at *
  have e:x * w.dot a+y * w.dot b+z * w.dot c=0:=by
   simp only [cmb3,V3.zero,V3.mk.injEq] at he
   simp only [V3.dot]
   grind
  have k1:=Int.mul_nonneg hx (Int.le_of_lt h1)
  have k2:=Int.mul_nonneg hy (Int.le_of_lt h2)
  have k3:=Int.mul_nonneg hz (Int.le_of_lt h3)
  rcases Int.lt_or_eq_of_le hx with q|q
  ·have:=Int.mul_pos q h1;omega
  rcases Int.lt_or_eq_of_le hy with q'|q'
  ·have:=Int.mul_pos q' h2;omega
  have q'':0 < z:=by omega
  have:=Int.mul_pos q'' h3;omega
theorem Ztw {P F:List V3} (hg:Good P F) {p f:V3} (hf:f∈F) (h:ptAt P f.x=p∨ptAt P f.y=p∨ptAt P f.z=p):onM axP P F p=true:=by
 refine (Zd6 hg).2 ⟨f,hf,?_⟩
 have z:p.sub p=V3.zero:=by simp [V3.sub,V3.zero]
 unfold OnI relV
 rcases h with h|h|h
 ·refine ⟨1,0,0,by decide,by decide,by decide,by decide,?_⟩
  rw [h,z];simp [cmb3,V3.zero]
 ·refine ⟨0,1,0,by decide,by decide,by decide,by decide,?_⟩
  rw [h,z];simp [cmb3,V3.zero]
 ·refine ⟨0,0,1,by decide,by decide,by decide,by decide,?_⟩
  rw [h,z];simp [cmb3,V3.zero]
end Go.Sx
namespace Go.Sx
open Go Go.Proofs.YtbfgldlfciimiaaGreatDoor
def quadN (fwd:Bool) (p q r s:V3):List (V3 × V3 × V3):=if fwd then [(p,q,r),(p,r,s)] else [(p,r,q),(p,s,r)]
def sideN (ax e:Nat) (fwd:Bool) (nv n:Nat):List (V3 × V3 × V3):=(List.range n).flatMap fun t=>quadN fwd (nodeAt ax e (t / nv) (t % nv)) (nodeAt ax e (t / nv+1) (t % nv)) (nodeAt ax e (t / nv+1) (t % nv+1)) (nodeAt ax e (t / nv) (t % nv+1))
def shellN (a b c:Nat):List (V3 × V3 × V3):=(List.range 6).flatMap fun s=>sideN (s / 2) (s % 2 * (size3 a b c (s / 2) - 1)) (fwdS (s / 2) (s % 2)) (size3 a b c (ax2 (s / 2)) - 1) ((size3 a b c (ax1 (s / 2)) - 1) * (size3 a b c (ax2 (s / 2)) - 1))
def posF (L:List V3) (x:V3 × V3 × V3):V3:=⟨posN L x.1,posN L x.2.1,posN L x.2.2⟩
theorem Zeq {a b c:Nat}:shellF a b c=(shellN a b c).map (posF (nodesF a b c)):=by
 unfold shellF sidesP shellN
 rw [List.map_flatMap]
 congr 1
 funext s
 unfold sideF sideP sideN
 rw [List.map_flatMap]
 congr 1
 funext t
 unfold quadAt quadF quadN
 split<;>rfl
theorem Zfm {a b c:Nat} (ha:2≤a) (hb:2≤b) (hc:2≤c) {x:V3 × V3 × V3} (h:x∈shellN a b c):x.1∈nodesF a b c∧x.2.1∈nodesF a b c∧x.2.2∈nodesF a b c:=by
 unfold shellN at h
 obtain ⟨s,hs,hf⟩:=List.mem_flatMap.1 h
 have hs:=List.mem_range.1 hs
 unfold sideN at hf
 obtain ⟨n,hn,hf⟩:=List.mem_flatMap.1 hf
 have hn:=List.mem_range.1 hn
 have hax:s / 2 < 3:=by omega
 have hen:s % 2 < 2:=Nat.mod_lt _ (by omega)
 have h2:∀ x,2≤size3 a b c x:=fun x=>by
  unfold size3
  split
  ·exact ha
  ·split
   ·exact hb
   ·exact hc
 have s1:=h2 (ax1 (s / 2))
 have s2:=h2 (ax2 (s / 2))
 generalize hnv:size3 a b c (ax2 (s / 2)) - 1=nv at hn hf
 generalize hnu:size3 a b c (ax1 (s / 2)) - 1=nu at hn
 have hv:n % nv < nv:=Nat.mod_lt _ (by omega)
 have hu:n / nv < nu:=by rw [Nat.div_lt_iff_lt_mul (by omega)];exact hn
 generalize hU:n / nv=u at hf hu
 generalize hV:n % nv=v at hf hv
 have mm:∀ u v,u < size3 a b c (ax1 (s / 2))→v < size3 a b c (ax2 (s / 2))→nodeAt (s / 2) (s % 2 * (size3 a b c (s / 2) - 1)) u v∈nodesF a b c:=fun u v h1 h2=>Zkc hax hen ha hb hc h1 h2
 have m1:=mm u v (by omega) (by omega)
 have m2:=mm (u+1) v (by omega) (by omega)
 have m3:=mm (u+1) (v+1) (by omega) (by omega)
 have m4:=mm u (v+1) (by omega) (by omega)
 unfold quadN at hf
 split at hf
 ·simp only [List.mem_cons,List.not_mem_nil,or_false] at hf
  rcases hf with rfl|rfl
  ·exact ⟨m1,m2,m3⟩
  ·exact ⟨m1,m3,m4⟩
 ·simp only [List.mem_cons,List.not_mem_nil,or_false] at hf
  rcases hf with rfl|rfl
  ·exact ⟨m1,m3,m2⟩
  ·exact ⟨m1,m4,m3⟩
theorem Zxk {a b c:Nat} {x:V3} (h:x∈nodesF a b c):ptAt (nodesF a b c) (posN (nodesF a b c) x:Nat)=x:=by
 obtain ⟨p1,p2⟩:=Zhj (Zcj a b c (a * b * c)) h
 unfold ptAt
 rw [Int.toNat_natCast]
 have p1':(nodesF a b c)[posN (nodesF a b c) x]?=some x:=p1
 rw [p1'];rfl
def sz (a b c t o:Nat):Int:=(size3 a b c (ordT t o):Int) - 1
def jo (t o:Nat) (x:V3):Int:=comp x (ordT t o)
def allJ (q:V3→Bool) (x:V3 × V3 × V3):Bool:=q x.1&&(q x.2.1&&q x.2.2)
def inBJ (a b c t:Nat) (x:V3):Bool:=decide (0≤jo t 0 x)&&decide (jo t 0 x≤sz a b c t 0)&&(decide (0≤jo t 1 x)&&decide (jo t 1 x≤sz a b c t 1))&&(decide (0≤jo t 2 x)&&decide (jo t 2 x≤sz a b c t 2))
def wallJ (a b c t:Nat) (x:V3 × V3 × V3):Bool :=
 (allJ (fun y=>decide (jo t 0 y=0)) x||allJ (fun y=>decide (jo t 0 y=sz a b c t 0)) x)||((allJ (fun y=>decide (jo t 1 y=0)) x||allJ (fun y=>decide (jo t 1 y=sz a b c t 1)) x)||(allJ (fun y=>decide (jo t 2 y=0)) x||allJ (fun y=>decide (jo t 2 y=sz a b c t 2)) x))
def at12 (t:Nat) (y:V3) (j k:Int):Bool:=decide (jo t 1 y=j)&&decide (jo t 2 y=k)
def seenJ (a b c t:Nat) (x:V3 × V3 × V3):Bool :=
 allJ (fun y=>decide (jo t 0 y=sz a b c t 0)) x&&at12 t x.1 0 0&&((at12 t x.2.1 1 0&&at12 t x.2.2 1 1)||(at12 t x.2.1 1 1&&at12 t x.2.2 1 0))
def behindJ (a b c t:Nat) (x:V3 × V3 × V3):Bool :=
 allJ (fun y=>decide (jo t 0 y=0)) x||(allJ (fun y=>decide (jo t 1 y=0)) x||(allJ (fun y=>decide (jo t 2 y=0)) x||(allJ (fun y=>decide (jo t 1 y=sz a b c t 1)) x||(allJ (fun y=>decide (jo t 2 y=sz a b c t 2)) x ||
 (allJ (fun y=>decide (jo t 0 y=sz a b c t 0)) x&&(allJ (fun y=>decide (1≤jo t 1 y)) x||(allJ (fun y=>decide (1≤jo t 2 y)) x||allJ (fun y=>at12 t y 0 0||(at12 t y 1 1||at12 t y 0 1)) x)))))))
def holdB (a b c t:Nat):Bool :=
 ((shellN a b c).all fun x=>allJ (inBJ a b c t) x&&wallJ a b c t x)&&(shellN a b c).any fun x0=>seenJ a b c t x0&&(shellN a b c).all fun x=>decide (x=x0)||behindJ a b c t x
set_option maxRecDepth 100000 in
set_option maxHeartbeats 4000000 in
theorem Z7k:∀ s,s < 72→holdB (3+s % 3) (3+s / 3 % 2) (3+s / 6 % 2) (s / 12)=true:=by decide +kernel
def usedJ (a b c:Nat):Bool:=(nodesF a b c).all fun y=>(shellN a b c).any fun x=>decide (x.1=y)||(decide (x.2.1=y)||decide (x.2.2=y))
set_option maxRecDepth 100000 in
set_option maxHeartbeats 4000000 in
theorem Z54:∀ s,s < 36→usedJ (2+s % 4) (2+s / 4 % 3) (2+s / 12 % 3)=true:=by decide +kernel
theorem Sz.hold {a b c t:Nat} (h:Sz a b c) (ht:t < 6) (ha:3≤a) (hb:3≤b) (hc:3≤c):holdB a b c t=true:=by
 obtain ⟨h1,h2,h3,h4,h5,h6⟩:=h
 have:=Z7k ((a - 3)+3 * ((b - 3)+2 * ((c - 3)+2 * t))) (by omega)
 have e1:3+((a - 3)+3 * ((b - 3)+2 * ((c - 3)+2 * t))) % 3=a:=by omega
 have e2:3+((a - 3)+3 * ((b - 3)+2 * ((c - 3)+2 * t))) / 3 % 2=b:=by omega
 have e3:3+((a - 3)+3 * ((b - 3)+2 * ((c - 3)+2 * t))) / 6 % 2=c:=by omega
 have e4:((a - 3)+3 * ((b - 3)+2 * ((c - 3)+2 * t))) / 12=t:=by omega
 rwa [e1,e2,e3,e4] at this
theorem Sz.used {a b c:Nat} (h:Sz a b c):usedJ a b c=true:=by
 obtain ⟨h1,h2,h3,h4,h5,h6⟩:=h
 have:=Z54 ((a - 2)+4 * ((b - 2)+3 * (c - 2))) (by omega)
 have e1:2+((a - 2)+4 * ((b - 2)+3 * (c - 2))) % 4=a:=by omega
 have e2:2+((a - 2)+4 * ((b - 2)+3 * (c - 2))) / 4 % 3=b:=by omega
 have e3:2+((a - 2)+4 * ((b - 2)+3 * (c - 2))) / 12 % 3=c:=by omega
 rwa [e1,e2,e3] at this
theorem Zhx {q:V3→Bool} {x:V3 × V3 × V3}:allJ q x=true↔q x.1=true∧q x.2.1=true∧q x.2.2=true:=by
 unfold allJ;simp only [Bool.and_eq_true]
structure Mono (t:Nat) (φ:V3→V3) (m:Nat→Int→Int):Prop where
 at_:∀ o,o < 3→∀ x,comp (φ x) o=m o (comp x (ordT t o))
 lt:∀ o,o < 3→∀ i j:Int,i < j→m o i < m o j
theorem Yh0 {t:Nat} {φ:V3→V3} {m:Nat→Int→Int} (h:Mono t φ m) {o:Nat} (ho:o < 3) {i j:Int} (hij:i≤j):m o i≤m o j:=by
 by_cases e:i=j
 ·subst e;exact Int.le_refl _
 ·exact Int.le_of_lt (h.lt o ho i j (by omega))
def seeV (m:Nat→Int→Int) (X j:V3):V3:=⟨m 0 j.x - m 0 X.x,m 1 j.y - m 1 X.y,m 2 j.z - m 2 X.z⟩
def jV (t:Nat) (x:V3):V3:=⟨jo t 0 x,jo t 1 x,jo t 2 x⟩
theorem Mono.rel {t:Nat} {φ:V3→V3} {m:Nat→Int→Int} (h:Mono t φ m) {a b c:Nat} {x y:V3} (hy:y∈nodesF a b c) :
  relV ((nodesF a b c).map φ) (φ x) (posN (nodesF a b c) y:Nat)=seeV m (jV t x) (jV t y):=by
 have hp:=Zhj (Zcj a b c (a * b * c)) hy
 have e:ptAt ((nodesF a b c).map φ) (posN (nodesF a b c) y:Nat)=φ y:=by
  rw [Zbk (by omega) (by have:=hp.2;exact_mod_cast this),Zxk hy]
 have k0:=h.at_ 0 (by decide)
 have k1:=h.at_ 1 (by decide)
 have k2:=h.at_ 2 (by decide)
 unfold relV seeV jV jo
 rw [e]
 dsimp only
 rw [← k0,← k1,← k2,← k0,← k1,← k2]
 rfl
variable {t a b c:Nat} {φ:V3→V3} {m:Nat→Int→Int} {x:V3}
end Go.Sx
namespace Go.Sx
open Go Go.Proofs.YtbfgldlfciimiaaGreatDoor
theorem Sep.swap {w a b c a' b' c':V3} (h:Sep w a b c a' b' c'):Sep w a c b a' b' c':=by
 obtain ⟨⟨s1,s2,s3⟩,s4,s5⟩:=h
 exact ⟨⟨s1,s3,s2⟩,by rcases s4 with s|s|s;exact .inl s;exact .inr (.inr s);exact .inr (.inl s),s5⟩
variable {t a b c:Nat} {φ:V3→V3} {m:Nat→Int→Int} {x:V3}
def mono37 (d:D37) (o:Nat) (i:Int):Int:=if o=0 then nearI (8000+d.s0 * i) 100000 else if o=1 then nearI (8000+d.s1 * i) 256000 - 128000 else nearI (8000+d.s2 * i) 256000 - 128000
theorem Zmm {s:Nat} {w i j:Int} (hs:1000≤s) (hw:100000≤w) (h:i < j):nearI (8000+s * i) w < nearI (8000+s * j) w:=by
 have e:8000+(s:Int) * j=8000+(s:Int) * i+(s:Int) * (j - i):=by grind
 rw [e]
 refine Zqj ?_ hw
 have:=Int.mul_le_mul (show (1000:Int)≤(s:Int) by omega) (show 1≤j - i by omega) (by decide) (by omega)
 omega
theorem D37.mono {d:D37} (h:d.ok) (h0:d.h0=0) (h1:d.h1=0) (h2:d.h2=0):Mono d.t (phi d) (mono37 d) where
 at_:=by
  intro o ho x
  have h:o=0∨o=1∨o=2:=by omega
  unfold phi colV colorV D37.out mono37
  rw [h0,h1,h2]
  rcases h with rfl|rfl|rfl
  ·simp [comp]
  ·simp [comp]
  ·simp [comp]
 lt:=by
  obtain ⟨_,⟨a0,_⟩,⟨a1,_⟩,⟨a2,_⟩,_⟩:=h
  intro o ho i j hij
  have h:o=0∨o=1∨o=2:=by omega
  unfold mono37
  rcases h with rfl|rfl|rfl
  ·simp only [if_true];exact Zmm a0 (by decide) hij
  ·have:=Zmm a1 (w:=256000) (by decide) hij
   simp only [Nat.one_ne_zero,if_false,if_true];omega
  ·have:=Zmm a2 (w:=256000) (by decide) hij
   simp only [Nat.reduceEqDiff,if_false];omega
theorem Zvx {q:D37} (h:q.ok) {a b c:Nat} (hz:Sz a b c):∃ F,shellR [(a:Int),(b:Int),(c:Int)] 3 (gridD q a b c)=(0,(nodesF a b c).map (phi q),F)∧Good ((nodesF a b c).map (phi q)) F∧(F=shellF a b c∨F=(shellF a b c).map swapF):=by
 have hst:Steps q.t (phi q):=Zg9 h
 have hf:∀ x∈nodesF a b c,isFar (phi q x)=false:=fun x hx=>by
  obtain ⟨i,j,k,rfl,hi,hj,hk,_⟩:=Zil hx
  have:=hz.a5;have:=hz.b4;have:=hz.c4
  exact Zgc (Zh8 h (by omega) (by omega) (by omega))
 have hg:=Zeg hz hst h.1 hf
 have ht:=Zdz hz hst h.1 hf
 obtain ⟨l1,l2,l3⟩:=hz.len
 have e:shellR [(a:Int),(b:Int),(c:Int)] 3 (gridD q a b c)=shellM (gridD q a b c) a b c:=Zgs rfl (Z3q h hz)
 rw [e]
 unfold shellM
 rw [if_neg (by omega),Zx3,if_pos (Yft.2 hg)]
 by_cases hv:volM ((nodesF a b c).map (phi q)) (shellF a b c) < 0
 ·rw [if_pos hv]
  exact ⟨_,rfl,ht,.inr rfl⟩
 ·rw [if_neg hv]
  exact ⟨_,rfl,hg,.inl rfl⟩
end Go.Sx
