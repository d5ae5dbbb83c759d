/- Plain: a mesh winds round a point from which one of its faces is seen that no other face hides. -/
import Derived.Test.YtbfgldlfciimiaaGreatDoorIm1
import Derived.Test.YtbfgldlfciimiaaGreatDoorLs6
set_option maxHeartbeats 1000000
namespace Go.Sx
open Go
def Sep (w a b c a' b' c':V3):Prop:=(w.dot a≤0∧w.dot b≤0∧w.dot c≤0)∧(w.dot a < 0∨w.dot b < 0∨w.dot c < 0)∧0≤w.dot a'∧0≤w.dot b'∧0≤w.dot c'
theorem Zr3 {P F:List V3} (hg:Good P F) {p f:V3} (hf:f∈F) (h:ptAt P f.x=p∨ptAt P f.y=p∨ptAt P f.z=p):onM axP P F p=true:=by
 refine (Zer hg).2 ⟨f,hf,?_⟩
 have z:p.sub p=V3.zero:=by simp [V3.sub,V3.zero]
 unfold OnI relV
 rcases h with h|h|h
 ·refine ⟨1,0,0,by decide,by decide,by decide,by decide,?_⟩
  rw [h,z];simp [cmb3,V3.zero]
 ·refine ⟨0,1,0,by decide,by decide,by decide,by decide,?_⟩
  rw [h,z];simp [cmb3,V3.zero]
 ·refine ⟨0,0,1,by decide,by decide,by decide,by decide,?_⟩
  rw [h,z];simp [cmb3,V3.zero]
end Go.Sx
namespace Go.Sx
open Go Go.Proofs.YtbfgldlfciimiaaGreatDoor
def quadN (fwd:Bool) (p q r s:V3):List (V3 × V3 × V3):=if fwd then [(p,q,r),(p,r,s)] else [(p,r,q),(p,s,r)]
def sideN (ax e:Nat) (fwd:Bool) (nv n:Nat):List (V3 × V3 × V3):=(List.range n).flatMap fun t=>quadN fwd (nodeAt ax e (t / nv) (t % nv)) (nodeAt ax e (t / nv+1) (t % nv)) (nodeAt ax e (t / nv+1) (t % nv+1)) (nodeAt ax e (t / nv) (t % nv+1))
def shellN (a b c:Nat):List (V3 × V3 × V3):=(List.range 6).flatMap fun s=>sideN (s / 2) (s % 2 * (size3 a b c (s / 2) - 1)) (fwdS (s / 2) (s % 2)) (size3 a b c (ax2 (s / 2)) - 1) ((size3 a b c (ax1 (s / 2)) - 1) * (size3 a b c (ax2 (s / 2)) - 1))
def posF (L:List V3) (x:V3 × V3 × V3):V3:=⟨posN L x.1,posN L x.2.1,posN L x.2.2⟩
theorem Zf8 {a b c:Nat}:shellF a b c=(shellN a b c).map (posF (nodesF a b c)):=by
 unfold shellF sidesP shellN
 rw [List.map_flatMap]
 congr 1
 funext s
 unfold sideF sideP sideN
 rw [List.map_flatMap]
 congr 1
 funext t
 unfold quadAt quadF quadN
 split<;>rfl
theorem Zz0 {a b c:Nat} {x:V3} (h:x∈nodesF a b c):ptAt (nodesF a b c) (posN (nodesF a b c) x:Nat)=x:=by
 obtain ⟨p1,p2⟩:=Zh8 (Zcv a b c (a * b * c)) h
 unfold ptAt
 rw [Int.toNat_natCast]
 have p1':(nodesF a b c)[posN (nodesF a b c) x]?=some x:=p1
 rw [p1'];rfl
def sz (a b c t o:Nat):Int:=(size3 a b c (ordT t o):Int) - 1
def jo (t o:Nat) (x:V3):Int:=comp x (ordT t o)
def allJ (q:V3→Bool) (x:V3 × V3 × V3):Bool:=q x.1&&(q x.2.1&&q x.2.2)
def inBJ (a b c t:Nat) (x:V3):Bool:=decide (0≤jo t 0 x)&&decide (jo t 0 x≤sz a b c t 0)&&(decide (0≤jo t 1 x)&&decide (jo t 1 x≤sz a b c t 1))&&(decide (0≤jo t 2 x)&&decide (jo t 2 x≤sz a b c t 2))
def wallJ (a b c t:Nat) (x:V3 × V3 × V3):Bool :=
 (allJ (fun y=>decide (jo t 0 y=0)) x||allJ (fun y=>decide (jo t 0 y=sz a b c t 0)) x)||((allJ (fun y=>decide (jo t 1 y=0)) x||allJ (fun y=>decide (jo t 1 y=sz a b c t 1)) x)||(allJ (fun y=>decide (jo t 2 y=0)) x||allJ (fun y=>decide (jo t 2 y=sz a b c t 2)) x))
def at12 (t:Nat) (y:V3) (j k:Int):Bool:=decide (jo t 1 y=j)&&decide (jo t 2 y=k)
def seenJ (a b c t:Nat) (x:V3 × V3 × V3):Bool :=
 allJ (fun y=>decide (jo t 0 y=sz a b c t 0)) x&&at12 t x.1 0 0&&((at12 t x.2.1 1 0&&at12 t x.2.2 1 1)||(at12 t x.2.1 1 1&&at12 t x.2.2 1 0))
def behindJ (a b c t:Nat) (x:V3 × V3 × V3):Bool :=
 allJ (fun y=>decide (jo t 0 y=0)) x||(allJ (fun y=>decide (jo t 1 y=0)) x||(allJ (fun y=>decide (jo t 2 y=0)) x||(allJ (fun y=>decide (jo t 1 y=sz a b c t 1)) x||(allJ (fun y=>decide (jo t 2 y=sz a b c t 2)) x ||
 (allJ (fun y=>decide (jo t 0 y=sz a b c t 0)) x&&(allJ (fun y=>decide (1≤jo t 1 y)) x||(allJ (fun y=>decide (1≤jo t 2 y)) x||allJ (fun y=>at12 t y 0 0||(at12 t y 1 1||at12 t y 0 1)) x)))))))
def holdB (a b c t:Nat):Bool :=
 ((shellN a b c).all fun x=>allJ (inBJ a b c t) x&&wallJ a b c t x)&&(shellN a b c).any fun x0=>seenJ a b c t x0&&(shellN a b c).all fun x=>decide (x=x0)||behindJ a b c t x
set_option maxRecDepth 100000 in
set_option maxHeartbeats 4000000 in
theorem Z4w:∀ s,s < 72→holdB (3+s % 3) (3+s / 3 % 2) (3+s / 6 % 2) (s / 12)=true:=by decide +kernel
def usedJ (a b c:Nat):Bool:=(nodesF a b c).all fun y=>(shellN a b c).any fun x=>decide (x.1=y)||(decide (x.2.1=y)||decide (x.2.2=y))
set_option maxRecDepth 100000 in
set_option maxHeartbeats 4000000 in
theorem Z3j:∀ s,s < 36→usedJ (2+s % 4) (2+s / 4 % 3) (2+s / 12 % 3)=true:=by decide +kernel
theorem Sz.hold {a b c t:Nat} (h:Sz a b c) (ht:t < 6) (ha:3≤a) (hb:3≤b) (hc:3≤c):holdB a b c t=true:=by
 obtain ⟨h1,h2,h3,h4,h5,h6⟩:=h
 have:=Z4w ((a - 3)+3 * ((b - 3)+2 * ((c - 3)+2 * t))) (by omega)
 have e1:3+((a - 3)+3 * ((b - 3)+2 * ((c - 3)+2 * t))) % 3=a:=by omega
 have e2:3+((a - 3)+3 * ((b - 3)+2 * ((c - 3)+2 * t))) / 3 % 2=b:=by omega
 have e3:3+((a - 3)+3 * ((b - 3)+2 * ((c - 3)+2 * t))) / 6 % 2=c:=by omega
 have e4:((a - 3)+3 * ((b - 3)+2 * ((c - 3)+2 * t))) / 12=t:=by omega
 rwa [e1,e2,e3,e4] at this
theorem Sz.used {a b c:Nat} (h:Sz a b c):usedJ a b c=true:=by
 obtain ⟨h1,h2,h3,h4,h5,h6⟩:=h
 have:=Z3j ((a - 2)+4 * ((b - 2)+3 * (c - 2))) (by omega)
 have e1:2+((a - 2)+4 * ((b - 2)+3 * (c - 2))) % 4=a:=by omega
 have e2:2+((a - 2)+4 * ((b - 2)+3 * (c - 2))) / 4 % 3=b:=by omega
 have e3:2+((a - 2)+4 * ((b - 2)+3 * (c - 2))) / 12 % 3=c:=by omega
 rwa [e1,e2,e3] at this
structure Mono (t:Nat) (φ:V3→V3) (m:Nat→Int→Int):Prop where
 at_:∀ o,o < 3→∀ x,comp (φ x) o=m o (comp x (ordT t o))
 lt:∀ o,o < 3→∀ i j:Int,i < j→m o i < m o j
theorem Ydy {t:Nat} {φ:V3→V3} {m:Nat→Int→Int} (h:Mono t φ m) {o:Nat} (ho:o < 3) {i j:Int} (hij:i≤j):m o i≤m o j:=by
 by_cases e:i=j
 ·subst e;exact Int.le_refl _
 ·exact Int.le_of_lt (h.lt o ho i j (by omega))
def seeV (m:Nat→Int→Int) (X j:V3):V3:=⟨m 0 j.x - m 0 X.x,m 1 j.y - m 1 X.y,m 2 j.z - m 2 X.z⟩
def jV (t:Nat) (x:V3):V3:=⟨jo t 0 x,jo t 1 x,jo t 2 x⟩
theorem Mono.rel {t:Nat} {φ:V3→V3} {m:Nat→Int→Int} (h:Mono t φ m) {a b c:Nat} {x y:V3} (hy:y∈nodesF a b c) :
  relV ((nodesF a b c).map φ) (φ x) (posN (nodesF a b c) y:Nat)=seeV m (jV t x) (jV t y):=by
 have hp:=Zh8 (Zcv a b c (a * b * c)) hy
 have e:ptAt ((nodesF a b c).map φ) (posN (nodesF a b c) y:Nat)=φ y:=by
  rw [Zbr (by omega) (by have:=hp.2;exact_mod_cast this),Zz0 hy]
 have k0:=h.at_ 0 (by decide)
 have k1:=h.at_ 1 (by decide)
 have k2:=h.at_ 2 (by decide)
 unfold relV seeV jV jo
 rw [e]
 dsimp only
 rw [← k0,← k1,← k2,← k0,← k1,← k2]
 rfl
variable {t a b c:Nat} {φ:V3→V3} {m:Nat→Int→Int} {x:V3}
end Go.Sx
namespace Go.Sx
open Go Go.Proofs.YtbfgldlfciimiaaGreatDoor
theorem Sep.swap {w a b c a' b' c':V3} (h:Sep w a b c a' b' c'):Sep w a c b a' b' c':=by
 obtain ⟨⟨s1,s2,s3⟩,s4,s5⟩:=h
 exact ⟨⟨s1,s3,s2⟩,by rcases s4 with s|s|s;exact .inl s;exact .inr (.inr s);exact .inr (.inl s),s5⟩
variable {t a b c:Nat} {φ:V3→V3} {m:Nat→Int→Int} {x:V3}
def mono37 (d:D37) (o:Nat) (i:Int):Int:=if o=0 then nearI (8000+d.s0 * i) 100000 else if o=1 then nearI (8000+d.s1 * i) 256000 - 128000 else nearI (8000+d.s2 * i) 256000 - 128000
theorem Zlj {s:Nat} {w i j:Int} (hs:1000≤s) (hw:100000≤w) (h:i < j):nearI (8000+s * i) w < nearI (8000+s * j) w:=by
 have e:8000+(s:Int) * j=8000+(s:Int) * i+(s:Int) * (j - i):=by grind
 rw [e]
 refine Zo6 ?_ hw
 have:=Int.mul_le_mul (show (1000:Int)≤(s:Int) by omega) (show 1≤j - i by omega) (by decide) (by omega)
 omega
theorem D37.mono {d:D37} (h:d.ok) (h0:d.h0=0) (h1:d.h1=0) (h2:d.h2=0):Mono d.t (phi d) (mono37 d) where
 at_:=by
  intro o ho x
  have h:o=0∨o=1∨o=2:=by omega
  unfold phi colV colorV D37.out mono37
  rw [h0,h1,h2]
  rcases h with rfl|rfl|rfl
  ·simp [comp]
  ·simp [comp]
  ·simp [comp]
 lt:=by
  obtain ⟨_,⟨a0,_⟩,⟨a1,_⟩,⟨a2,_⟩,_⟩:=h
  intro o ho i j hij
  have h:o=0∨o=1∨o=2:=by omega
  unfold mono37
  rcases h with rfl|rfl|rfl
  ·simp only [if_true];exact Zlj a0 (by decide) hij
  ·have:=Zlj a1 (w:=256000) (by decide) hij
   simp only [Nat.one_ne_zero,if_false,if_true];omega
  ·have:=Zlj a2 (w:=256000) (by decide) hij
   simp only [Nat.reduceEqDiff,if_false];omega
theorem Zt2 {q:D37} (h:q.ok) {a b c:Nat} (hz:Sz a b c):∃ F,shellR [(a:Int),(b:Int),(c:Int)] 3 (gridD q a b c)=(0,(nodesF a b c).map (phi q),F)∧Good ((nodesF a b c).map (phi q)) F∧(F=shellF a b c∨F=(shellF a b c).map swapF):=by
 have hst:Steps q.t (phi q):=Zix h
 have hf:∀ x∈nodesF a b c,isFar (phi q x)=false:=fun x hx=>by
  obtain ⟨i,j,k,rfl,hi,hj,hk,_⟩:=Zgh hx
  have:=hz.a5;have:=hz.b4;have:=hz.c4
  exact Zjg (Zgg h (by omega) (by omega) (by omega))
 have hg:=Ze0 hz hst h.1 hf
 have ht:=Zek hz hst h.1 hf
 obtain ⟨l1,l2,l3⟩:=hz.len
 have e:shellR [(a:Int),(b:Int),(c:Int)] 3 (gridD q a b c)=shellM (gridD q a b c) a b c:=Zf7 rfl (Zpj h hz)
 rw [e]
 unfold shellM
 rw [if_neg (by omega),Zvy,if_pos (Yb3.2 hg)]
 by_cases hv:volM ((nodesF a b c).map (phi q)) (shellF a b c) < 0
 ·rw [if_pos hv]
  exact ⟨_,rfl,ht,.inr rfl⟩
 ·rw [if_neg hv]
  exact ⟨_,rfl,hg,.inl rfl⟩
end Go.Sx
