/- Winding numbers, plain: they do not depend on the direction. -/
import Derived.Test.YtbfgldlfciimiaaGreatDoorMq1
namespace Go.Sx
open Go
def det3 (u v w:V3):Int:=u.dot (v.cross w)
def hitS (D p1 p2 p3:Int):Int:=if D≠0∧p1.sign=D.sign∧p2.sign=D.sign∧p3.sign=D.sign then D.sign else 0
def ccS (A B P Q:Int):Int:=if A < 0∧0≤B∧0 < P∧Q < 0 then 1 else if 0≤A∧B < 0∧P < 0∧0 < Q then -1 else 0
theorem Zfg {n:Int}:n.sign < 0↔n < 0:=by
 rcases Int.lt_trichotomy n 0 with h|h|h
 ·rw [Int.sign_eq_neg_one_of_neg h];omega
 ·subst h;simp
 ·rw [Int.sign_eq_one_of_pos h];omega
theorem Zf5 {n:Int}:0 < n.sign↔0 < n:=by
 rcases Int.lt_trichotomy n 0 with h|h|h
 ·rw [Int.sign_eq_neg_one_of_neg h];omega
 ·subst h;simp
 ·rw [Int.sign_eq_one_of_pos h];omega
theorem Zhl {n:Int}:0≤n.sign↔0≤n:=by
 have:=@Zfg n;omega
theorem Zg5 (A B P Q:Int):ccS A B P Q=ccS A.sign B.sign P.sign Q.sign:=by
 unfold ccS
 simp only [Zfg,Zf5,Zhl]
theorem Zzg (n:Int):n.sign.sign=n.sign:=by
 rcases Int.lt_trichotomy n 0 with h|h|h
 ·rw [Int.sign_eq_neg_one_of_neg h];rfl
 ·subst h;rfl
 ·rw [Int.sign_eq_one_of_pos h];rfl
theorem Z7b {n:Int}:n.sign≠0↔n≠0:=by
 rw [ne_eq,Int.sign_eq_zero_iff_zero]
theorem Zdt (D p1 p2 p3:Int):hitS D p1 p2 p3=hitS D.sign p1.sign p2.sign p3.sign:=by
 unfold hitS
 simp only [Zzg,Z7b]
theorem Z5n (A B P Q:Int):ccS B A (-P) (-Q)=- ccS A B P Q:=by
 unfold ccS
 split
 ·split
  ·omega
  ·split<;>omega
 ·split
  ·split
   ·omega
   ·split<;>omega
  ·split
   ·omega
   ·split<;>omega
def rel3 (a b c:Int):Bool:=!((decide (0≤a)&&decide (0≤b)&&decide (0≤c)&&(decide (0 < a)||decide (0 < b)||decide (0 < c)))||(decide (a≤0)&&decide (b≤0)&&decide (c≤0)&&(decide (a < 0)||decide (b < 0)||decide (c < 0))))
def ag2 (s t r:Int):Bool:=decide (s≠-t)||decide (s=0)||decide (r=s)
def S3:List Int:=[-1,0,1]
def S2:List Int:=[-1,1]
def core1 (D p1 p2 p3 q1 q2 q3 A B C:Int):Bool :=
 !(ag2 (p2 * q3) (p3 * q2) (D * A)&&ag2 (p3 * q1) (p1 * q3) (D * B)&&ag2 (p1 * q2) (p2 * q1) (D * C)&&rel3 (p1 * A) (p2 * B) (p3 * C)&&rel3 (q1 * A) (q2 * B) (q3 * C)&&!(decide (A=0)&&decide (B=0)&&decide (C=0))) ||
 decide (hitS D p1 p2 p3 - hitS D q1 q2 q3=ccS A B p3 q3+ccS B C p1 q1+ccS C A p2 q2)
theorem Z1t:∀ D∈S2,∀ p1∈S2,∀ p2∈S2,∀ p3∈S2,∀ q1∈S2,∀ q2∈S2,∀ q3∈S2,∀ A∈S3,∀ B∈S3,∀ C∈S3,core1 D p1 p2 p3 q1 q2 q3 A B C=true:=by decide +kernel
def core0 (p1 p2 p3 q1 q2 q3 A B C:Int):Bool :=
 !(decide (p2 * q3=p3 * q2)&&decide (p3 * q1=p1 * q3)&&decide (p1 * q2=p2 * q1)&&(decide (p1=0) == decide (q1=0))&&(decide (p2=0) == decide (q2=0))&&(decide (p3=0) == decide (q3=0))&&rel3 p1 p2 p3&&rel3 (p1 * A) (p2 * B) (p3 * C)) ||
 decide (ccS A B p3 q3+ccS B C p1 q1+ccS C A p2 q2=0)
theorem Z1u:∀ p1∈S3,∀ p2∈S3,∀ p3∈S3,∀ q1∈S3,∀ q2∈S3,∀ q3∈S3,∀ A∈S3,∀ B∈S3,∀ C∈S3,core0 p1 p2 p3 q1 q2 q3 A B C=true:=by decide +kernel
theorem Zdu (n:Int):n.sign∈S3:=by
 rcases Int.lt_trichotomy n 0 with h|h|h
 ·rw [Int.sign_eq_neg_one_of_neg h];decide
 ·subst h;decide
 ·rw [Int.sign_eq_one_of_pos h];decide
theorem Zdh {n:Int} (h0:n≠0):n.sign∈S2:=by
 rcases Int.lt_trichotomy n 0 with h|h|h
 ·rw [Int.sign_eq_neg_one_of_neg h];decide
 ·exact absurd h h0
 ·rw [Int.sign_eq_one_of_pos h];decide
theorem Zs6 {a b c:Int} (h:a+b+c=0):rel3 a.sign b.sign c.sign=true:=by
 unfold rel3
 have e1:=@Zfg a;have e2:=@Zf5 a;have e3:=@Zhl a
 have f1:=@Zfg b;have f2:=@Zf5 b;have f3:=@Zhl b
 have g1:=@Zfg c;have g2:=@Zf5 c;have g3:=@Zhl c
 rw [Bool.not_eq_true',← Bool.not_eq_true]
 simp only [Bool.or_eq_true,Bool.and_eq_true,decide_eq_true_eq]
 omega
theorem Z16 {x y:Int}:ag2 x.sign y.sign (x - y).sign=true:=by
 unfold ag2
 rcases Int.lt_trichotomy x 0 with h|h|h
 ·rcases Int.lt_trichotomy y 0 with k|k|k
  ·rw [Int.sign_eq_neg_one_of_neg h,Int.sign_eq_neg_one_of_neg k];rfl
  ·subst k;rw [Int.sign_eq_neg_one_of_neg h];rfl
  ·rw [Int.sign_eq_neg_one_of_neg h,Int.sign_eq_one_of_pos k,Int.sign_eq_neg_one_of_neg (show x - y < 0 by omega)];rfl
 ·subst h;simp
 ·rcases Int.lt_trichotomy y 0 with k|k|k
  ·rw [Int.sign_eq_one_of_pos h,Int.sign_eq_neg_one_of_neg k,Int.sign_eq_one_of_pos (show 0 < x - y by omega)];rfl
  ·subst k;rw [Int.sign_eq_one_of_pos h];rfl
  ·rw [Int.sign_eq_one_of_pos h,Int.sign_eq_one_of_pos k];rfl
theorem Z4z {D p1 p2 p3 q1 q2 q3 A B C:Int} (hD:D≠0) (h1:p1≠0) (h2:p2≠0) (h3:p3≠0) (k1:q1≠0) (k2:q2≠0) (k3:q3≠0)
  (hA:D * A=p2 * q3 - p3 * q2) (hB:D * B=p3 * q1 - p1 * q3) (hC:D * C=p1 * q2 - p2 * q1) (hne:¬ (A=0∧B=0∧C=0)) (hp:p1 * A+p2 * B+p3 * C=0) (hq:q1 * A+q2 * B+q3 * C=0) :
  hitS D p1 p2 p3 - hitS D q1 q2 q3=ccS A B p3 q3+ccS B C p1 q1+ccS C A p2 q2:=by
 have h:=Z1t _ (Zdh hD) _ (Zdh h1) _ (Zdh h2) _ (Zdh h3) _ (Zdh k1) _ (Zdh k2) _ (Zdh k3) _ (Zdu A) _ (Zdu B) _ (Zdu C)
 rw [Zdt,Zdt D q1,Zg5,Zg5 B C,Zg5 C A]
 unfold core1 at h
 rw [Bool.or_eq_true,decide_eq_true_eq] at h
 refine h.resolve_left ?_
 rw [Bool.not_eq_true',Bool.not_eq_false]
 simp only [Bool.and_eq_true]
 have a1:=Z16 (x:=p2 * q3) (y:=p3 * q2)
 have a2:=Z16 (x:=p3 * q1) (y:=p1 * q3)
 have a3:=Z16 (x:=p1 * q2) (y:=p2 * q1)
 rw [← hA] at a1
 rw [← hB] at a2
 rw [← hC] at a3
 have r1:=Zs6 hp
 have r2:=Zs6 hq
 simp only [Int.sign_mul] at a1 a2 a3 r1 r2
 refine ⟨⟨⟨⟨⟨a1,a2⟩,a3⟩,r1⟩,r2⟩,?_⟩
 rw [Bool.not_eq_true',← Bool.not_eq_true]
 simp only [Bool.and_eq_true,decide_eq_true_eq,Int.sign_eq_zero_iff_zero]
 exact fun h=>hne ⟨h.1.1,h.1.2,h.2⟩
theorem Z1b {p1 p2 p3 q1 q2 q3 A B C:Int} (h1:p1=0↔q1=0) (h2:p2=0↔q2=0) (h3:p3=0↔q3=0)
  (hA:p2 * q3=p3 * q2) (hB:p3 * q1=p1 * q3) (hC:p1 * q2=p2 * q1) (hm:rel3 p1.sign p2.sign p3.sign=true) (hp:p1 * A+p2 * B+p3 * C=0) :
  ccS A B p3 q3+ccS B C p1 q1+ccS C A p2 q2=0:=by
 have h:=Z1u _ (Zdu p1) _ (Zdu p2) _ (Zdu p3) _ (Zdu q1) _ (Zdu q2) _ (Zdu q3) _ (Zdu A) _ (Zdu B) _ (Zdu C)
 rw [Zg5,Zg5 B C,Zg5 C A]
 unfold core0 at h
 rw [Bool.or_eq_true,decide_eq_true_eq] at h
 refine h.resolve_left ?_
 rw [Bool.not_eq_true',Bool.not_eq_false]
 simp only [Bool.and_eq_true,decide_eq_true_eq,beq_iff_eq]
 have r1:=Zs6 hp
 simp only [Int.sign_mul] at r1
 have e:∀ {x y:Int},(x=0↔y=0)→decide (x.sign=0)=decide (y.sign=0):=fun {x y} h=>by
  rw [Bool.eq_iff_iff]
  simp only [decide_eq_true_eq,Int.sign_eq_zero_iff_zero]
  exact h
 refine ⟨⟨⟨⟨⟨⟨⟨?_,?_⟩,?_⟩,e h1⟩,e h2⟩,e h3⟩,hm⟩,r1⟩
 ·rw [← Int.sign_mul,← Int.sign_mul,hA]
 ·rw [← Int.sign_mul,← Int.sign_mul,hB]
 ·rw [← Int.sign_mul,← Int.sign_mul,hC]
/-! vectors -/
theorem V3.ext' {u v:V3} (h1:u.x=v.x) (h2:u.y=v.y) (h3:u.z=v.z):u=v:=by
 obtain ⟨_,_,_⟩:=u;obtain ⟨_,_,_⟩:=v;simp only at h1 h2 h3;subst h1 h2 h3;rfl
def V3.smul (k:Int) (v:V3):V3:=⟨k * v.x,k * v.y,k * v.z⟩
def V3.plus (a b:V3):V3:=⟨a.x+b.x,a.y+b.y,a.z+b.z⟩
theorem Yay (d a b c:V3):V3.smul (det3 a b c) d=((V3.smul (det3 d b c) a).plus (V3.smul (det3 d c a) b)).plus (V3.smul (det3 d a b) c):=by
 simp only [V3.smul,V3.plus,det3,V3.dot,V3.cross,V3.mk.injEq]
 refine ⟨?_,?_,?_⟩<;>grind
theorem Zv9 (d e a b c:V3):det3 a b c * det3 d e a=det3 d c a * det3 e a b - det3 d a b * det3 e c a:=by
 simp only [det3,V3.dot,V3.cross];grind
theorem Zv8 (d e a b c:V3):det3 a b c * det3 d e b=det3 d a b * det3 e b c - det3 d b c * det3 e a b:=by
 simp only [det3,V3.dot,V3.cross];grind
theorem Zv7 (d e a b c:V3):det3 a b c * det3 d e c=det3 d b c * det3 e c a - det3 d c a * det3 e b c:=by
 simp only [det3,V3.dot,V3.cross];grind
theorem Z1n (d e a b c:V3):det3 d b c * det3 d e a+det3 d c a * det3 d e b+det3 d a b * det3 d e c=0:=by
 simp only [det3,V3.dot,V3.cross];grind
theorem Z5e (d e a b c:V3):det3 e b c * det3 d e a+det3 e c a * det3 d e b+det3 e a b * det3 d e c=0:=by
 simp only [det3,V3.dot,V3.cross];grind
theorem Z8m (d e a b c:V3):V3.smul (det3 a b c) (d.cross e)=((V3.smul (det3 d e a) (b.cross c)).plus (V3.smul (det3 d e b) (c.cross a))).plus (V3.smul (det3 d e c) (a.cross b)):=by
 simp only [V3.smul,V3.plus,det3,V3.dot,V3.cross,V3.mk.injEq]
 refine ⟨?_,?_,?_⟩<;>grind
theorem Zbt (d a b:V3):det3 d b a=- det3 d a b:=by
 simp only [det3,V3.dot,V3.cross];grind
theorem Zua (a b c:V3):det3 a b c=det3 b c a:=by
 simp only [det3,V3.dot,V3.cross];grind
def Out3 (a b c:V3):Prop:=∀ x y z:Int,0≤x→0≤y→0≤z→((V3.smul x a).plus (V3.smul y b)).plus (V3.smul z c)=V3.zero→x=0∧y=0∧z=0
def Clear (d a b:V3):Prop:=a.cross b≠V3.zero→det3 d a b≠0
theorem Zkm {d a b:V3} (h:a.cross b=V3.zero):det3 d a b=0:=by
 unfold det3;rw [h];simp [V3.dot,V3.zero]
theorem Zim {a b c:V3} (h:det3 a b c≠0):a.cross b≠V3.zero∧b.cross c≠V3.zero∧c.cross a≠V3.zero:=by
 refine ⟨fun e=>h ?_,fun e=>h ?_,fun e=>h ?_⟩
 ·rw [Zua,Zua];exact Zkm e
 ·exact Zkm e
 ·rw [Zua];exact Zkm e
def hit3 (d a b c:V3):Int:=hitS (det3 a b c) (det3 d b c) (det3 d c a) (det3 d a b)
def cross3 (d e a b:V3):Int:=ccS (det3 d e a) (det3 d e b) (det3 d a b) (det3 e a b)
theorem Zue (d e a b:V3):cross3 d e b a=- cross3 d e a b:=by
 unfold cross3
 rw [Zbt d a b,Zbt e a b,Z5n]
theorem Z1h {d e a b c:V3} (hd:d.cross e≠V3.zero) (d1:Clear d a b) (d2:Clear d b c) (d3:Clear d c a) (e1:Clear e a b) (e2:Clear e b c) (e3:Clear e c a) (ho:det3 a b c=0→Out3 a b c) :
  hit3 d a b c - hit3 e a b c=cross3 d e a b+cross3 d e b c+cross3 d e c a:=by
 unfold hit3 cross3
 by_cases hD:det3 a b c=0
 ·have z:∀ p1 p2 p3,hitS (det3 a b c) p1 p2 p3=0:=fun _ _ _=>by unfold hitS;rw [if_neg fun h=>h.1 hD]
  rw [z,z]
  have iff0:∀ {u v:V3},Clear d u v→Clear e u v→(det3 d u v=0↔det3 e u v=0):=fun {u v} h1 h2=>by
   by_cases hc:u.cross v=V3.zero
   ·simp only [Zkm hc]
   ·have:=h1 hc;have:=h2 hc;omega
  have r1:=Zv9 d e a b c
  have r2:=Zv8 d e a b c
  have r3:=Zv7 d e a b c
  rw [hD,Int.zero_mul] at r1 r2 r3
  have hz:=Yay d a b c
  rw [hD] at hz
  have hz0:V3.smul 0 d=V3.zero:=by simp [V3.smul,V3.zero]
  rw [hz0] at hz
  have hm:rel3 (det3 d b c).sign (det3 d c a).sign (det3 d a b).sign=true:=by
   generalize det3 d b c=p1 at hz
   generalize det3 d c a=p2 at hz
   generalize det3 d a b=p3 at hz
   have k1:=fun h1 h2 h3=>ho hD p1 p2 p3 h1 h2 h3 hz.symm
   have k2:=fun h1 h2 h3=>ho hD (-p1) (-p2) (-p3) h1 h2 h3 (by
    simp only [V3.smul,V3.plus,V3.zero,V3.mk.injEq] at hz ⊢
    obtain ⟨z1,z2,z3⟩:=hz
    simp only [Int.neg_mul]
    omega)
   unfold rel3
   rw [Bool.not_eq_true',← Bool.not_eq_true]
   simp only [Bool.or_eq_true,Bool.and_eq_true,decide_eq_true_eq]
   have e1:=@Zfg p1;have e2:=@Zf5 p1;have e3:=@Zhl p1
   have f1:=@Zfg p2;have f2:=@Zf5 p2;have f3:=@Zhl p2
   have g1:=@Zfg p3;have g2:=@Zf5 p3;have g3:=@Zhl p3
   rintro (⟨⟨⟨h1,h2⟩,h3⟩,h4⟩|⟨⟨⟨h1,h2⟩,h3⟩,h4⟩)
   ·have:=k1 (by omega) (by omega) (by omega)
    omega
   ·have:=k2 (by omega) (by omega) (by omega)
    omega
  rw [Int.sub_self]
  exact (Z1b (iff0 d2 e2) (iff0 d3 e3) (iff0 d1 e1) (by omega) (by omega) (by omega) hm (Z1n d e a b c)).symm
 ·obtain ⟨n3,n1,n2⟩:=Zim hD
  exact Z4z hD (d2 n1) (d3 n2) (d1 n3) (e2 n1) (e3 n2) (e1 n3) (Zv9 d e a b c) (Zv8 d e a b c) (Zv7 d e a b c) (fun h=>hd (by
   have:=Z8m d e a b c
   obtain ⟨h1,h2,h3⟩:=h
   rw [h1,h2,h3] at this
   generalize d.cross e=n at this
   obtain ⟨n1,n2,n3⟩:=n
   simp only [V3.smul,V3.plus,Int.zero_mul,Int.add_zero,V3.mk.injEq] at this
   obtain ⟨t1,t2,t3⟩:=this
   have g:∀ {x:Int},det3 a b c * x=0→x=0:=fun h=>(Int.mul_eq_zero.1 h).resolve_left hD
   rw [g t1,g t2,g t3];rfl)) (Z1n d e a b c) (Z5e d e a b c)
/-! a mesh, seen from a point -/
def relV (P:List V3) (p:V3) (i:Int):V3:=(ptAt P i).sub p
def hitF (P:List V3) (p d f:V3):Int:=hit3 d (relV P p f.x) (relV P p f.y) (relV P p f.z)
def windM (P F:List V3) (p d:V3):Int:=F.foldl (fun s f=>s+hitF P p d f) 0
theorem Zqm {g:V3→Int} {h:Edg→Int} {F:List V3} (he:∀ f∈F,g f=h (f.x,f.y)+h (f.y,f.z)+h (f.z,f.x)):∀ {k:Nat},k≤F.length→(F.take k).foldl (fun s f=>s+g f) 0=sumE h (edgesL F (3 * k))
 | 0,_=>by simp [edgesL,sumE]
 | k + 1,hk=>by
  have ih:=Zqm he (k:=k) (by omega)
  have hf:F[k]?=some F[k]:=List.getElem?_eq_getElem (by omega)
  have hg:=he F[k] (List.getElem_mem _)
  generalize F[k]=f at hf hg
  have e1:edgesL F (3 * (k+1))=edgesL F (3 * k)++[(f.x,f.y),(f.y,f.z),(f.z,f.x)]:=by
   rw [show 3 * (k+1)=3 * k+1+1+1 from rfl,Zbo,Zbo,Zbo,Zlw hf,Zlv hf,Zlu hf]
   simp
  rw [Za1 hf,ih,e1,Zk4,hg]
  simp [sumE];omega
theorem Good.zero {P F:List V3} (hg:Good P F) {h:Edg→Int} (hs:∀ u,h u.swap=- h u) {g:V3→Int} (he:∀ f∈F,g f=h (f.x,f.y)+h (f.y,f.z)+h (f.z,f.x)):F.foldl (fun s f=>s+g f) 0=0:=by
 have:=Zqm he (Nat.le_refl _)
 rw [List.take_length] at this
 rw [this]
 exact Zec hs (hg.nodup (Nat.le_refl _)) fun u hu=>hg.swap hu
theorem Zvz {g h:V3→Int}:∀ (F:List V3) (s t:Int),F.foldl (fun s f=>s+(g f - h f)) (s - t)=F.foldl (fun s f=>s+g f) s - F.foldl (fun s f=>s+h f) t
 | [],_,_=>rfl
 | f::F,s,t=>by
  rw [List.foldl_cons,List.foldl_cons,List.foldl_cons,← Zvz F]
  congr 1;omega
theorem Ze7 {g h:V3→Int}:∀ (F:List V3) (s:Int),(∀ f∈F,g f=h f)→F.foldl (fun s f=>s+g f) s=F.foldl (fun s f=>s+h f) s
 | [],_,_=>rfl
 | f::F,s,he=>by
  rw [List.foldl_cons,List.foldl_cons,he f (List.mem_cons_self ..)]
  exact Ze7 F _ fun x hx=>he x (List.mem_cons_of_mem _ hx)
def ClearF (P:List V3) (p d f:V3):Prop:=Clear d (relV P p f.x) (relV P p f.y)∧Clear d (relV P p f.y) (relV P p f.z)∧Clear d (relV P p f.z) (relV P p f.x)
def OutF (P:List V3) (p f:V3):Prop:=det3 (relV P p f.x) (relV P p f.y) (relV P p f.z)=0→Out3 (relV P p f.x) (relV P p f.y) (relV P p f.z)
theorem Zmy {P F:List V3} (hg:Good P F) {p d e:V3} (hx:d.cross e≠V3.zero) (ho:∀ f∈F,OutF P p f) (hd:∀ f∈F,ClearF P p d f) (he:∀ f∈F,ClearF P p e f):windM P F p d=windM P F p e:=by
 have h:=hg.zero (h:=fun u=>cross3 d e (relV P p u.1) (relV P p u.2)) (fun u=>Zue d e (relV P p u.1) (relV P p u.2)) (g:=fun f=>hitF P p d f - hitF P p e f) (fun f hf=>by
  obtain ⟨d1,d2,d3⟩:=hd f hf
  obtain ⟨e1,e2,e3⟩:=he f hf
  exact Z1h hx d1 d2 d3 e1 e2 e3 (ho f hf))
 have h2:=Zvz (g:=hitF P p d) (h:=hitF P p e) F 0 0
 rw [Int.sub_self] at h2
 unfold windM
 omega
/-! directions that are clear of finitely many planes -/
def dirT (t:Nat):V3:=⟨1,t,(t:Int) * (t:Int)⟩
theorem Z8k {n:V3} (hn:n≠V3.zero):∃ T:Nat,∀ t,T < t→(dirT t).dot n≠0:=by
 obtain ⟨x,y,z⟩:=n
 refine ⟨x.natAbs+y.natAbs,fun t ht=>?_⟩
 have e:(dirT t).dot ⟨x,y,z⟩=x+(y+(t:Int) * z) * (t:Int):=by simp only [dirT,V3.dot];grind
 rw [e]
 intro h
 have big:∀ {k:Int},k≠0→(t:Int)≤(k * (t:Int)).natAbs:=fun {k} hk=>by
  rw [Int.natAbs_mul,Int.natAbs_natCast]
  have:1 * t≤k.natAbs * t:=Nat.mul_le_mul_right t (by omega)
  omega
 by_cases h1:y+(t:Int) * z=0
 ·rw [h1,Int.zero_mul] at h
  by_cases hz:z=0
  ·subst hz
   have hy:y=0:=by simpa using h1
   have hx:x=0:=by omega
   subst hy hx
   exact hn rfl
  ·have:=big hz
   rw [Int.mul_comm] at this
   omega
 ·have:=big h1
  omega
theorem Zps:∀ L:List V3,∃ T:Nat,∀ t,T < t→∀ n∈L,n≠V3.zero→(dirT t).dot n≠0
 | []=>⟨0,fun _ _ _ h=>by simp at h⟩
 | n :: L=>by
  obtain ⟨T,hT⟩:=Zps L
  by_cases hn:n=V3.zero
  ·refine ⟨T,fun t ht m hm h0=>?_⟩
   rcases List.mem_cons.1 hm with rfl|hm
   ·exact absurd hn h0
   ·exact hT t ht m hm h0
  ·obtain ⟨S,hS⟩:=Z8k hn
   refine ⟨max S T,fun t ht m hm h0=>?_⟩
   rcases List.mem_cons.1 hm with rfl|hm
   ·exact hS t (by omega)
   ·exact hT t (by omega) m hm h0
def nextTo (d e:V3) (N:Nat):V3:=(V3.smul (N:Int) d).plus e
theorem Zo5 {d e n:V3} {N:Nat}:(nextTo d e N).dot n=(N:Int) * d.dot n+e.dot n:=by
 simp only [nextTo,V3.plus,V3.smul,V3.dot];grind
theorem Zc6 {x y:Int} {N:Nat} (hx:x≠0) (hN:y.natAbs < N):((N:Int) * x+y).sign=x.sign:=by
 rcases Int.lt_trichotomy x 0 with h|h|h
 ·have:(N:Int) * x≤(N:Int) * (-1):=Int.mul_le_mul_of_nonneg_left (by omega) (by omega)
  rw [Int.sign_eq_neg_one_of_neg h,Int.sign_eq_neg_one_of_neg (by omega)]
 ·exact absurd h hx
 ·have:(N:Int) * 1≤(N:Int) * x:=Int.mul_le_mul_of_nonneg_left (by omega) (by omega)
  rw [Int.sign_eq_one_of_pos h,Int.sign_eq_one_of_pos (by omega)]
theorem Zkk (e:V3):∀ L:List V3,∃ M:Nat,∀ n∈L,(e.dot n).natAbs≤M
 | []=>⟨0,fun _ h=>by simp at h⟩
 | n::L=>by
  obtain ⟨M,hM⟩:=Zkk e L
  refine ⟨max (e.dot n).natAbs M,fun m hm=>?_⟩
  rcases List.mem_cons.1 hm with rfl|hm
  ·exact Nat.le_max_left _ _
  ·exact Nat.le_trans (hM m hm) (Nat.le_max_right _ _)
def norms (P F:List V3) (p:V3):List V3:=F.flatMap fun f=>[(relV P p f.x).cross (relV P p f.y),(relV P p f.y).cross (relV P p f.z),(relV P p f.z).cross (relV P p f.x)]
theorem Ze3 {P F:List V3} {p f:V3} (hf:f∈F):(relV P p f.x).cross (relV P p f.y)∈norms P F p∧(relV P p f.y).cross (relV P p f.z)∈norms P F p∧(relV P p f.z).cross (relV P p f.x)∈norms P F p:=by
 unfold norms
 refine ⟨?_,?_,?_⟩<;>exact List.mem_flatMap.2 ⟨f,hf,by simp⟩
def Fine (P F:List V3) (p d:V3):Prop:=∀ f∈F,det3 (relV P p f.x) (relV P p f.y) (relV P p f.z)≠0→det3 d (relV P p f.x) (relV P p f.y)≠0∧det3 d (relV P p f.y) (relV P p f.z)≠0∧det3 d (relV P p f.z) (relV P p f.x)≠0
theorem Zqi {P F:List V3} {p d e:V3} {N:Nat} (hd:Fine P F p d) (hN:∀ n∈norms P F p,(e.dot n).natAbs < N):windM P F p (nextTo d e N)=windM P F p d:=by
 refine Ze7 F 0 fun f hf=>?_
 obtain ⟨m1,m2,m3⟩:=Ze3 (P:=P) (p:=p) hf
 unfold hitF hit3
 by_cases hD:det3 (relV P p f.x) (relV P p f.y) (relV P p f.z)=0
 ·unfold hitS;rw [if_neg fun h=>h.1 hD,if_neg fun h=>h.1 hD]
 ·obtain ⟨h1,h2,h3⟩:=hd f hf hD
  have key:∀ {u v:V3},u.cross v∈norms P F p→det3 d u v≠0→(det3 (nextTo d e N) u v).sign=(det3 d u v).sign:=fun {u v} hm h0=>by
   unfold det3 at h0 ⊢
   rw [Zo5]
   exact Zc6 h0 (hN _ hm)
  rw [Zdt,key m2 h2,key m3 h3,key m1 h1,← Zdt]
theorem Zfc {P F:List V3} {p d e:V3} {N:Nat} (he:∀ n∈norms P F p,n≠V3.zero→e.dot n≠0) (hN:∀ n∈norms P F p,(e.dot n).natAbs < N):∀ f∈F,ClearF P p (nextTo d e N) f:=by
 intro f hf
 obtain ⟨m1,m2,m3⟩:=Ze3 (P:=P) (p:=p) hf
 have key:∀ {u v:V3},u.cross v∈norms P F p→Clear (nextTo d e N) u v:=fun {u v} hm h0=>by
  unfold det3
  rw [Zo5]
  by_cases hz:d.dot (u.cross v)=0
  ·rw [hz,Int.mul_zero,Int.zero_add];exact he _ hm h0
  ·have:=Zc6 hz (hN _ hm)
   intro h
   rw [h,Int.sign_zero] at this
   exact hz (Int.sign_eq_zero_iff_zero.1 this.symm)
 exact ⟨key m1,key m2,key m3⟩
theorem Zr2 {d:V3} (hd:d≠V3.zero):∃ T:Nat,∀ t,T < t→d.cross (dirT t)≠V3.zero:=by
 obtain ⟨x,y,z⟩:=d
 refine ⟨y.natAbs,fun t ht h=>?_⟩
 simp only [V3.cross,dirT,V3.zero,V3.mk.injEq,Int.mul_one] at h
 obtain ⟨h1,h2,h3⟩:=h
 by_cases hx:x=0
 ·subst hx
  have hz:z=0:=by omega
  have hy:y=0:=by omega
  subst hy hz
  exact hd rfl
 ·have:(t:Int)≤(x * (t:Int)).natAbs:=by
   rw [Int.natAbs_mul,Int.natAbs_natCast]
   have:1 * t≤x.natAbs * t:=Nat.mul_le_mul_right t (by omega)
   omega
  omega
theorem Zoh {P F:List V3} (hg:Good P F) {p d e:V3} (ho:∀ f∈F,OutF P p f) (hd:Fine P F p d) (he:Fine P F p e):windM P F p d=windM P F p e:=by
 by_cases hall:∀ f∈F,det3 (relV P p f.x) (relV P p f.y) (relV P p f.z)=0
 ·refine Ze7 F 0 fun f hf=>?_
  unfold hitF hit3 hitS
  rw [if_neg fun h=>h.1 (hall f hf),if_neg fun h=>h.1 (hall f hf)]
 obtain ⟨f,hf,hD⟩:∃ f∈F,det3 (relV P p f.x) (relV P p f.y) (relV P p f.z)≠0:=by
  refine Classical.byContradiction fun h=>hall fun f hf=>Classical.byContradiction fun h0=>h ⟨f,hf,h0⟩
 have nz:∀ {u:V3},Fine P F p u→u≠V3.zero:=fun {u} hu h0=>by
  have:=(hu f hf hD).1
  rw [h0] at this
  exact this (by simp [det3,V3.dot,V3.zero])
 obtain ⟨T,hT⟩:=Zps (norms P F p)
 have hn:=hT (T+1) (by omega)
 obtain ⟨M,hM⟩:=Zkk (dirT (T+1)) (norms P F p)
 have hN:∀ n∈norms P F p,((dirT (T+1)).dot n).natAbs < M+1:=fun n h=>Nat.lt_succ_of_le (hM n h)
 have cd:=Zfc (d:=d) hn hN
 have ce:=Zfc (d:=e) hn hN
 have wd:=Zqi hd hN
 have we:=Zqi he hN
 have fine_of:∀ {u:V3},(∀ f∈F,ClearF P p u f)→Fine P F p u:=fun {u} h g hg0 hD0=>by
  obtain ⟨n3,n1,n2⟩:=Zim hD0
  obtain ⟨c1,c2,c3⟩:=h g hg0
  exact ⟨c1 n3,c2 n1,c3 n2⟩
 obtain ⟨A,hA⟩:=Zr2 (nz (fine_of cd))
 obtain ⟨B,hB⟩:=Zr2 (nz (fine_of ce))
 obtain ⟨t,ht⟩:∃ t,t=max T (max A B)+1:=⟨_,rfl⟩
 have cr:∀ f∈F,ClearF P p (dirT t) f:=fun f hf=>by
  obtain ⟨m1,m2,m3⟩:=Ze3 (P:=P) (p:=p) hf
  have h:=hT t (by omega)
  exact ⟨fun h0=>h _ m1 h0,fun h0=>h _ m2 h0,fun h0=>h _ m3 h0⟩
 rw [← wd,← we,Zmy hg (hA t (by omega)) ho cd cr,Zmy hg (hB t (by omega)) ho ce cr]
end Go.Sx
namespace Go.Sx
open Go
theorem Zrl {E:List Edg} (hn:E.Nodup) (hs:∀ u∈E,u.swap∈E) (hd:∀ u∈E,u.1≠u.2):2 * (E.filter fun u=>decide (u.1 < u.2)).length=E.length:=by
 have h1:=List.length_eq_countP_add_countP (fun u:Edg=>decide (u.1 < u.2)) (l:=E)
 have h2:=(Zk2 hn hs).countP_eq (fun u:Edg=>decide (u.1 < u.2))
 rw [List.countP_map] at h2
 have h3:E.countP (fun u=>decide ¬decide (u.1 < u.2)=true)=E.countP ((fun u:Edg=>decide (u.1 < u.2)) ∘ Prod.swap):=by
  refine List.countP_congr fun u hu=>?_
  have:=hd u hu
  simp only [decide_eq_true_eq,Function.comp_apply,Prod.fst_swap,Prod.snd_swap]
  omega
 rw [← List.countP_eq_length_filter]
 omega
theorem Z4g {l m:List Nat} (hn:l.Nodup) (h:∀ x∈l,x∈m):l.length≤m.length:=by
 induction l generalizing m with
 | nil=>simp
 | cons a l ih =>
  rw [List.nodup_cons] at hn
  have ha:a∈m:=h a (List.mem_cons_self ..)
  have:=ih (m:=m.erase a) hn.2 fun x hx=>(List.mem_erase_of_ne (fun e=>hn.1 (by rw [← e];exact hx))).2 (h x (List.mem_cons_of_mem _ hx))
  rw [List.length_erase_of_mem ha] at this
  have:=List.length_pos_of_mem ha
  rw [List.length_cons]
  omega
theorem Zy6 {n:V3} (hn:n≠V3.zero):∃ R:List Nat,R.length≤2∧∀ t:Nat,(dirT t).dot n=0→t∈R:=by
 obtain ⟨x,y,z⟩:=n
 have e:∀ t:Nat,(dirT t).dot ⟨x,y,z⟩=x+(t:Int) * y+(t:Int) * (t:Int) * z:=fun t=>by simp only [dirT,V3.dot];grind
 by_cases h0:∃ a:Nat,(dirT a).dot ⟨x,y,z⟩=0
 ·obtain ⟨a,ha⟩:=h0
  rw [e] at ha
  by_cases h1:∃ b:Nat,b≠a∧(dirT b).dot ⟨x,y,z⟩=0
  ·obtain ⟨b,hba,hb⟩:=h1
   rw [e] at hb
   have k1:((b:Int) - a) * (y+((b:Int)+a) * z)=0:=by grind
   have k1:=(Int.mul_eq_zero.1 k1).resolve_left (by omega)
   refine ⟨[a,b],by simp,fun t ht=>?_⟩
   rw [e] at ht
   by_cases hta:t=a
   ·subst hta;simp
   ·have k2:((t:Int) - a) * (y+((t:Int)+a) * z)=0:=by grind
    have k2:=(Int.mul_eq_zero.1 k2).resolve_left (by omega)
    have k3:((t:Int) - b) * z=0:=by grind
    rcases Int.mul_eq_zero.1 k3 with h|h
    ·have:t=b:=by omega
     subst this;simp
    ·exfalso
     subst h
     have hy:y=0:=by simpa using k1
     subst hy
     have hx:x=0:=by simpa using ha
     subst hx
     exact hn rfl
  ·refine ⟨[a],by simp,fun t ht=>?_⟩
   by_cases hta:t=a
   ·subst hta;simp
   ·exact absurd ⟨t,hta,ht⟩ h1
 ·exact ⟨[],by simp,fun t ht=>absurd ⟨t,ht⟩ h0⟩
theorem Zr9:∀ L:List V3,∃ R:List Nat,R.length≤2 * L.length∧∀ t:Nat,∀ n∈L,n≠V3.zero→(dirT t).dot n=0→t∈R
 | []=>⟨[],by simp,fun _ _ h=>by simp at h⟩
 | n :: L=>by
  obtain ⟨R,h1,h2⟩:=Zr9 L
  by_cases hn:n=V3.zero
  ·refine ⟨R,by rw [List.length_cons];omega,fun t m hm h0 hz=>?_⟩
   rcases List.mem_cons.1 hm with rfl|hm
   ·exact absurd hn h0
   ·exact h2 t m hm h0 hz
  ·obtain ⟨S,s1,s2⟩:=Zy6 hn
   refine ⟨S++R,by rw [List.length_append,List.length_cons];omega,fun t m hm h0 hz=>?_⟩
   rcases List.mem_cons.1 hm with rfl|hm
   ·exact List.mem_append.2 (.inl (s2 t hz))
   ·exact List.mem_append.2 (.inr (h2 t m hm h0 hz))
theorem Z5c {F:List V3} {f:V3} (hf:f∈F):(f.x,f.y)∈edgesL F (3 * F.length)∧(f.y,f.z)∈edgesL F (3 * F.length)∧(f.z,f.x)∈edgesL F (3 * F.length):=by
 obtain ⟨i,hi,rfl⟩:=List.getElem_of_mem hf
 have hg:F[i]?=some F[i]:=List.getElem?_eq_getElem hi
 have key:∀ k,k < 3→edgeAt F (3 * i+k)∈edgesL F (3 * F.length):=fun k hk=>List.mem_map.2 ⟨3 * i+k,List.mem_range.2 (by omega),rfl⟩
 have k0:=key 0 (by omega)
 have k1:=key 1 (by omega)
 have k2:=key 2 (by omega)
 rw [Nat.add_zero,Zlw hg] at k0
 rw [Zlv hg] at k1
 rw [Zlu hg] at k2
 exact ⟨k0,k1,k2⟩
theorem Zyb {a b:V3} (h:b.cross a=V3.zero):a.cross b=V3.zero:=by
 simp only [V3.cross,V3.zero,V3.mk.injEq] at h ⊢
 obtain ⟨h1,h2,h3⟩:=h
 refine ⟨?_,?_,?_⟩<;>grind
theorem pick {R:List Nat} {K:Nat} (h:R.length < K):∃ t,1≤t∧t≤K∧t ∉ R:=by
 refine Classical.byContradiction fun hn=>?_
 have:=Z4g (l:=List.range' 1 K) (m:=R) List.nodup_range' fun t ht=>Classical.byContradiction fun h2=>hn (by
  rw [List.mem_range'_1] at ht
  exact ⟨t,ht.1,by omega,h2⟩)
 rw [List.length_range'] at this
 omega
def edgeN (P:List V3) (p:V3) (u:Edg):V3:=(relV P p u.1).cross (relV P p u.2)
def halfE (F:List V3):List Edg:=(edgesL F (3 * F.length)).filter fun u=>decide (u.1 < u.2)
theorem Z40 {P F:List V3} (hg:Good P F):2 * (halfE F).length=3 * F.length:=by
 have hl:=Zrl (hg.nodup (Nat.le_refl (3 * F.length))) (fun u hu=>hg.swap (u:=u) hu) fun u hu=>hg.apart2 (u:=u) hu
 have hE:(edgesL F (3 * F.length)).length=3 * F.length:=by simp [edgesL]
 rw [hE] at hl
 exact hl
theorem Zpg {P F:List V3} (hg:Good P F) {p:V3} {t:Nat} {R:List Nat} (hR:t ∉ R) (r2:∀ t:Nat,∀ n∈(halfE F).map (edgeN P p),n≠V3.zero→(dirT t).dot n=0→t∈R) {u:Edg} (hu:u∈edgesL F (3 * F.length)) (h0:edgeN P p u≠V3.zero):(dirT t).dot (edgeN P p u)≠0:=by
 intro hz
 rcases Int.lt_or_le u.1 u.2 with h|h
 ·exact hR (r2 t (edgeN P p u) (List.mem_map.2 ⟨u,List.mem_filter.2 ⟨hu,by simpa using h⟩,rfl⟩) h0 hz)
 ·have hlt:u.2 < u.1:=by have:=hg.apart2 hu;omega
  have e:edgeN P p u.swap≠V3.zero:=fun e=>h0 (Zyb e)
  refine hR (r2 t (edgeN P p u.swap) (List.mem_map.2 ⟨u.swap,List.mem_filter.2 ⟨hg.swap hu,by simpa using hlt⟩,rfl⟩) e ?_)
  have h1:(dirT t).dot (edgeN P p u.swap)=- (dirT t).dot (edgeN P p u):=Zbt _ _ _
  rw [h1,hz];rfl
theorem Zt9 {P F:List V3} (hg:Good P F) (p:V3) {K:Nat} (hK:3 * F.length < K):∃ t,1≤t∧t≤K∧Fine P F p (dirT t):=by
 have hl:=Z40 hg
 obtain ⟨R,r1,r2⟩:=Zr9 ((halfE F).map (edgeN P p))
 rw [List.length_map] at r1
 obtain ⟨t,t1,t2,hR⟩:=pick (R:=R) (K:=K) (by omega)
 refine ⟨t,t1,t2,fun f hf hD=>?_⟩
 obtain ⟨n3,n1,n2⟩:=Zim hD
 obtain ⟨m1,m2,m3⟩:=Z5c hf
 have h1:=Zpg hg hR r2 m1 n3
 have h2:=Zpg hg hR r2 m2 n1
 have h3:=Zpg hg hR r2 m3 n2
 clear r2 hR r1 hK hl
 unfold edgeN at h1 h2 h3
 unfold det3
 exact ⟨h1,h2,h3⟩
theorem Zx5 {P F:List V3} (hg:Good P F) (p:V3):∃ t,1≤t∧t≤1801∧Fine P F p (dirT t) :=
 Zt9 hg p (by have:=hg.f600;omega)
end Go.Sx
namespace Go.Sx
open Go
/-! fractions of integers -/
def qI (n d:Int):Rat:=mkRat (if d < 0 then -n else n) d.natAbs
theorem Zq3 {n d:Int}:qI n d=Rat.divInt n d:=by
 unfold qI
 cases d with
 | ofNat d =>
  have h:¬ (Int.ofNat d) < 0:=by have:=Int.natCast_nonneg d;exact Int.not_lt.2 this
  rw [if_neg h];rfl
 | negSucc d =>
  rw [if_pos (Int.negSucc_lt_zero d)]
  rw [Rat.divInt,← Rat.normalize_eq_mkRat (by omega)]
  rfl
theorem Ztd {a b c d:Int} (hb:b≠0) (hd:d≠0):qI a b=qI c d↔a * d=c * b:=by
 rw [Zq3,Zq3,Rat.divInt_eq_divInt_iff hb hd]
theorem Zov {n d:Int}:qI n d=(n:Rat) / (d:Rat):=by
 rw [Zq3,Rat.divInt_eq_div]
theorem Zi3 (d:Int):qI 0 d=0:=by
 unfold qI;split<;>simp
/-! spans of numbers -/
structure Spn where
 low:Rat
 high:Rat
 opn:Bool
def Spn.ne (s:Spn):Prop:=s.opn=true∨s.low≤s.high
instance (s:Spn):Decidable s.ne:=by unfold Spn.ne;infer_instance
def cutV (s:Spn) (u v:Int):Spn :=
 if 0 < v∧s.low < qI (-u) v then { s with low:=qI (-u) v }
 else if v < 0∧(s.opn=true∨qI (-u) v < s.high) then { s with high:=qI (-u) v,opn:=false } else s
def cutS (s:Spn) (u v:Int):Option Spn :=
 if v=0 then (if 0≤u then some s else none) else if (cutV s u v).ne then some (cutV s u v) else none
theorem Zcd {u u' α β:Int} (ha:0 < α) (hb:0 < β) (h:α * u=β * u'):(0 < u↔0 < u')∧(u < 0↔u' < 0):=by
 have p1:∀ {α u:Int},0 < α→(0 < α * u↔0 < u):=fun {α u} ha=>⟨fun h=>by
  rcases Int.lt_or_le 0 u with h1|h1
  ·exact h1
  ·have:=Int.mul_le_mul_of_nonneg_left h1 (Int.le_of_lt ha)
   rw [Int.mul_zero] at this
   omega,fun h=>Int.mul_pos ha h⟩
 have n1:∀ {α u:Int},0 < α→(α * u < 0↔u < 0):=fun {α u} ha=>by
  have:=p1 (u:=-u) ha
  rw [Int.mul_neg] at this
  omega
 exact ⟨by rw [← p1 ha,h,p1 hb],by rw [← n1 ha,h,n1 hb]⟩
/-! faces as seen from a point -/
def V3.proj (k:Nat) (v:V3):Int:=if k=0 then v.x else if k=1 then v.y else v.z
def axP (n:V3):Nat:=if n.z≠0 then 2 else if n.y≠0 then 1 else 0
theorem Zr8 {n:V3} (h:n≠V3.zero):n.proj (axP n)≠0:=by
 obtain ⟨x,y,z⟩:=n
 unfold axP V3.proj
 simp only [V3.zero,ne_eq,V3.mk.injEq] at h ⊢
 split<;>(try split)<;>simp_all
def nrm (a b c:V3):V3:=(b.sub a).cross (c.sub a)
def hfU (k:Nat) (n a b:V3):Int:=(n.proj k).sign * (a.cross b).proj k
def hfV (k:Nat) (n a b d:V3):Int:=(n.proj k).sign * ((b.sub a).cross d).proj k
def natI (x:Int):Int:=(x.natAbs:Int)
theorem Zez (x:Int):x.sign * x=natI x∧(0 < x.sign↔0 < x)∧(x.sign < 0↔x < 0):=by
 refine ⟨Int.sign_mul_self x,?_,?_⟩
 ·rcases Int.lt_trichotomy x 0 with h|h|h
  ·rw [Int.sign_eq_neg_one_of_neg h];omega
  ·subst h;simp
  ·rw [Int.sign_eq_one_of_pos h];omega
 ·rcases Int.lt_trichotomy x 0 with h|h|h
  ·rw [Int.sign_eq_neg_one_of_neg h];omega
  ·subst h;simp
  ·rw [Int.sign_eq_one_of_pos h];omega
theorem Zfn {x:Int} (h:x≠0):0 < natI x:=by unfold natI;omega
def cut3S (s:Spn) (k:Nat) (n a b c d:V3):Option Spn :=
 ((cutS s (hfU k n a b) (hfV k n a b d)).bind fun s=>cutS s (hfU k n b c) (hfV k n b c d)).bind fun s=>cutS s (hfU k n c a) (hfV k n c a d)
def holdsM (k:Nat) (a b c:V3):Bool:=decide (det3 a b c=0∧0≤hfU k (nrm a b c) a b∧0≤hfU k (nrm a b c) b c∧0≤hfU k (nrm a b c) c a)
def path0 (beyond:Bool):Spn:=⟨0,1,beyond⟩
theorem cyc3 (d c a:V3):det3 d c a=det3 a d c:=by simp only [det3,V3.dot,V3.cross];grind
theorem Z5i (d a b:V3):det3 d a b=det3 a b d:=by simp only [det3,V3.dot,V3.cross];grind
end Go.Sx
namespace Go.Sx
open Go
def cmb3 (x y z:Int) (a b c:V3):V3:=⟨x * a.x+y * b.x+z * c.x,x * a.y+y * b.y+z * c.y,x * a.z+y * b.z+z * c.z⟩
def scal (k:Int) (v:V3):V3:=⟨k * v.x,k * v.y,k * v.z⟩
def HitI (a b c d:V3) (k m:Int):Prop:=0 < m∧∃ x y z:Int,0≤x∧0≤y∧0≤z∧x+y+z=m∧cmb3 x y z a b c=scal k d
theorem Zuf (x y z:Int) (a b c:V3):((V3.smul x a).plus (V3.smul y b)).plus (V3.smul z c)=cmb3 x y z a b c:=rfl
end Go.Sx
namespace Go.Sx
open Go
/-! what the least t of a face is -/
def HitR (a b c d:V3) (t:Rat):Prop:=∃ k m:Int,t=qI k m∧HitI a b c d k m
def Spn.has (s:Spn) (t:Rat):Prop:=s.low≤t∧(s.opn=true∨t≤s.high)
theorem Yb9 {v:Int}:(0:Rat) < (v:Rat)↔0 < v:=by
 have h:=Rat.intCast_lt_intCast (a:=0) (b:=v)
 exact h
def Half (k:Nat) (n a b d:V3) (t:Rat):Prop:=0≤(hfU k n a b:Rat)+t * (hfV k n a b d:Rat)
theorem Z41 {u v k m:Int} (hm:0 < m):0≤(u:Rat)+qI k m * (v:Rat)↔0≤u * m+k * v:=by
 have hm':=Yb9.2 hm
 rw [Zov]
 have e:((u * m+k * v:Int):Rat)=((u:Rat)+(k:Rat) / (m:Rat) * (v:Rat)) * (m:Rat):=by
  rw [Rat.intCast_add,Rat.intCast_mul,Rat.intCast_mul]
  have:(k:Rat) / (m:Rat) * (m:Rat)=k:=Rat.div_mul_cancel (by grind)
  grind
 rw [← Rat.intCast_le_intCast (a:=0),e]
 generalize (u:Rat)+(k:Rat) / (m:Rat) * (v:Rat)=x
 generalize (m:Rat)=y at *
 constructor
 ·intro h;exact Rat.mul_nonneg h (Rat.le_of_lt hm')
 ·intro h
  refine Rat.le_of_mul_le_mul_right (c:=y) ?_ hm'
  rw [Rat.zero_mul];exact h
theorem Z33 (k:Nat) (a b:V3) (x y:Int):(⟨x * a.x+y * b.x,x * a.y+y * b.y,x * a.z+y * b.z⟩:V3).proj k=x * a.proj k+y * b.proj k:=by
 unfold V3.proj;split
 ·rfl
 ·split<;>rfl
theorem Zzz (k:Nat) (a:V3) (x:Int):(scal x a).proj k=x * a.proj k:=by
 unfold V3.proj scal;split
 ·rfl
 ·split<;>rfl
theorem Zhi {a b c d:V3} {x y z k m:Int} (hm:x+y+z=m) (h:cmb3 x y z a b c=scal k d) (κ:Nat):(a.cross b).proj κ * m+k * ((b.sub a).cross d).proj κ=z * (nrm a b c).proj κ:=by
 have e:(⟨m * (a.cross b).x+k * ((b.sub a).cross d).x,m * (a.cross b).y+k * ((b.sub a).cross d).y,m * (a.cross b).z+k * ((b.sub a).cross d).z⟩:V3)=scal z (nrm a b c):=by
  simp only [cmb3,scal,V3.mk.injEq] at h
  obtain ⟨h1,h2,h3⟩:=h
  simp only [scal,nrm,V3.cross,V3.sub,V3.mk.injEq]
  subst hm
  refine ⟨?_,?_,?_⟩<;>grind
 have e2:=congrArg (V3.proj κ) e
 rw [Z33,Zzz] at e2
 rw [Int.mul_comm _ m];exact e2
theorem Zw3 {a b c d:V3} {x y z k m:Int} (hm:x+y+z=m) (h:cmb3 x y z a b c=scal k d) (κ:Nat) :
  (a.cross b).proj κ * m+k * ((b.sub a).cross d).proj κ=z * (nrm a b c).proj κ∧(b.cross c).proj κ * m+k * ((c.sub b).cross d).proj κ=x * (nrm a b c).proj κ∧(c.cross a).proj κ * m+k * ((a.sub c).cross d).proj κ=y * (nrm a b c).proj κ:=by
 have n1:nrm b c a=nrm a b c:=by
  simp only [nrm,V3.cross,V3.sub,V3.mk.injEq];refine ⟨?_,?_,?_⟩<;>grind
 have n2:nrm c a b=nrm a b c:=by
  simp only [nrm,V3.cross,V3.sub,V3.mk.injEq];refine ⟨?_,?_,?_⟩<;>grind
 have c1:cmb3 y z x b c a=scal k d:=by
  rw [← h];simp only [cmb3,V3.mk.injEq];refine ⟨?_,?_,?_⟩<;>omega
 have c2:cmb3 z x y c a b=scal k d:=by
  rw [← h];simp only [cmb3,V3.mk.injEq];refine ⟨?_,?_,?_⟩<;>omega
 refine ⟨Zhi hm h κ,?_,?_⟩
 ·have:=Zhi (m:=m) (by omega) c1 κ;rw [n1] at this;exact this
 ·have:=Zhi (m:=m) (by omega) c2 κ;rw [n2] at this;exact this
theorem Ztz {a b c d:V3} (h0:det3 a b c=0) (hd:(nrm a b c).dot d=0) {k m:Int} (κ:Nat) :
  cmb3 ((b.cross c).proj κ * m+k * ((c.sub b).cross d).proj κ) ((c.cross a).proj κ * m+k * ((a.sub c).cross d).proj κ) ((a.cross b).proj κ * m+k * ((b.sub a).cross d).proj κ) a b c=scal (k * (nrm a b c).proj κ) d ∧
  ((b.cross c).proj κ * m+k * ((c.sub b).cross d).proj κ)+((c.cross a).proj κ * m+k * ((a.sub c).cross d).proj κ)+((a.cross b).proj κ * m+k * ((b.sub a).cross d).proj κ)=m * (nrm a b c).proj κ:=by
 obtain ⟨a1,a2,a3⟩:=a
 obtain ⟨b1,b2,b3⟩:=b
 obtain ⟨c1,c2,c3⟩:=c
 obtain ⟨d1,d2,d3⟩:=d
 simp only [det3,nrm,V3.dot,V3.cross,V3.sub] at h0 hd
 simp only [cmb3,scal,nrm,V3.cross,V3.sub,V3.proj,V3.mk.injEq]
 split
 ·refine ⟨⟨?_,?_,?_⟩,?_⟩<;>grind
 ·split
  ·refine ⟨⟨?_,?_,?_⟩,?_⟩<;>grind
  ·refine ⟨⟨?_,?_,?_⟩,?_⟩<;>grind
theorem Zpz {x y z k m:Int} {a b c d:V3} (hm:x+y+z=m) (h:cmb3 x y z a b c=scal k d):m * det3 a b c=k * (nrm a b c).dot d:=by
 simp only [cmb3,scal,V3.mk.injEq] at h
 obtain ⟨h1,h2,h3⟩:=h
 subst hm
 simp only [nrm,det3,V3.dot,V3.cross,V3.sub]
 grind
theorem Zpf {k:Nat} {n:V3} (hk:n.proj k≠0) {y:Int}:0≤y * n.proj k * (n.proj k).sign↔0≤y:=by
 obtain ⟨s1,_,_⟩:=Zez (n.proj k)
 have pk:=Zfn hk
 have e:y * n.proj k * (n.proj k).sign=natI (n.proj k) * y:=by rw [← s1];grind
 rw [e]
 have:=(Zcd (α:=natI (n.proj k)) (β:=1) (u:=y) (u':=natI (n.proj k) * y) pk (by decide) (by omega)).2
 omega
theorem Zgz {κ:Nat} {n a b d:V3} {k m:Int} (hm:0 < m):Half κ n a b d (qI k m)↔0≤((a.cross b).proj κ * m+k * ((b.sub a).cross d).proj κ) * (n.proj κ).sign:=by
 unfold Half
 rw [Z41 hm]
 unfold hfU hfV
 have e:(n.proj κ).sign * (a.cross b).proj κ * m+k * ((n.proj κ).sign * ((b.sub a).cross d).proj κ)=((a.cross b).proj κ * m+k * ((b.sub a).cross d).proj κ) * (n.proj κ).sign:=by grind
 rw [e]
theorem Zih {a b c d:V3} (h0:det3 a b c=0) (hd:(nrm a b c).dot d=0) {κ:Nat} (hk:(nrm a b c).proj κ≠0) (t:Rat) :
  HitR a b c d t↔Half κ (nrm a b c) a b d t∧Half κ (nrm a b c) b c d t∧Half κ (nrm a b c) c a d t:=by
 constructor
 ·rintro ⟨k,m,rfl,hm,x,y,z,hx,hy,hz,hs,he⟩
  obtain ⟨w1,w2,w3⟩:=Zw3 hs he κ
  rw [Zgz hm,Zgz hm,Zgz hm,w1,w2,w3,Zpf hk,Zpf hk,Zpf hk]
  exact ⟨hz,hx,hy⟩
 ·have ht:t=qI t.num t.den:=by
   unfold qI
   rw [if_neg (by omega),Int.natAbs_natCast,Rat.mkRat_self]
  have hm:(0:Int) < (t.den:Int):=by have:=t.den_pos;omega
  generalize t.num=k at ht
  generalize (t.den:Int)=m at ht hm
  subst ht
  rw [Zgz hm,Zgz hm,Zgz hm]
  rintro ⟨w1,w2,w3⟩
  obtain ⟨e1,e2⟩:=Ztz (k:=k) (m:=m) h0 hd κ
  obtain ⟨s1,_,_⟩:=Zez ((nrm a b c).proj κ)
  have pk:=Zfn hk
  refine ⟨k * natI ((nrm a b c).proj κ),m * natI ((nrm a b c).proj κ),?_,Int.mul_pos hm pk,_,_,_,w2,w3,w1,?_,?_⟩
  ·rw [Ztd (by omega) (Int.ne_of_gt (Int.mul_pos hm pk))];grind
  ·rw [← Int.add_mul,← Int.add_mul,e2,← s1];grind
  ·rw [← s1]
   generalize ((nrm a b c).proj κ).sign=σ at *
   generalize (nrm a b c).proj κ=N at *
   generalize (b.cross c).proj κ * m+k * ((c.sub b).cross d).proj κ=X at *
   generalize (c.cross a).proj κ * m+k * ((a.sub c).cross d).proj κ=Y at *
   generalize (a.cross b).proj κ * m+k * ((b.sub a).cross d).proj κ=Z at *
   simp only [cmb3,scal,V3.mk.injEq] at e1 ⊢
   obtain ⟨f1,f2,f3⟩:=e1
   clear s1 pk w1 w2 w3 e2 hk hm h0 hd
   refine ⟨?_,?_,?_⟩<;>grind
theorem Zrk {a b c d:V3} {κ:Nat} (hk:(nrm a b c).proj κ≠0):holdsM κ a b c=true↔HitR a b c d 0:=by
 unfold holdsM
 rw [decide_eq_true_eq]
 have z:∀ v:V3,(scal 0 v)=V3.zero:=fun v=>by simp [scal,V3.zero]
 have e0:HitR a b c d 0↔HitR a b c V3.zero 0:=by
  constructor
  ·rintro ⟨k,m,hq,hm,x,y,z',hx,hy,hz,hs,he⟩
   have:k=0:=by
    have h:=(Ztd (a:=0) (b:=1) (c:=k) (d:=m) (by decide) (by omega)).1 (by rw [Zi3];exact hq)
    omega
   subst this
   exact ⟨0,m,hq,hm,x,y,z',hx,hy,hz,hs,by rw [he,z,z]⟩
  ·rintro ⟨k,m,hq,hm,x,y,z',hx,hy,hz,hs,he⟩
   have:k=0:=by
    have h:=(Ztd (a:=0) (b:=1) (c:=k) (d:=m) (by decide) (by omega)).1 (by rw [Zi3];exact hq)
    omega
   subst this
   exact ⟨0,m,hq,hm,x,y,z',hx,hy,hz,hs,by rw [he,z,z]⟩
 rw [e0]
 have hd:(nrm a b c).dot V3.zero=0:=by simp [V3.dot,V3.zero]
 have hV:∀ a b:V3,hfV κ (nrm a b c) a b V3.zero=0:=fun a b=>by
  unfold hfV
  have:((b.sub a).cross V3.zero)=V3.zero:=by simp [V3.cross,V3.zero]
  rw [this]
  unfold V3.proj V3.zero;simp
 have hH:∀ n a b:V3,Half κ n a b V3.zero 0↔0≤hfU κ n a b:=fun n a b=>by
  unfold Half
  rw [Rat.zero_mul,Rat.add_zero]
  exact Rat.intCast_le_intCast
 by_cases h0:det3 a b c=0
 ·rw [Zih h0 hd hk,hH,hH,hH]
  exact ⟨fun h=>h.2,fun h=>⟨h0,h⟩⟩
 ·refine ⟨fun h=>absurd h.1 h0,?_⟩
  rintro ⟨k,m,hq,hm,x,y,z',hx,hy,hz,hs,he⟩
  have:=Zpz hs he
  rw [hd,Int.mul_zero] at this
  exact absurd ((Int.mul_eq_zero.1 this).resolve_left (by omega)) h0
end Go.Sx
namespace Go.Sx
open Go
def onT (ax:V3→Nat) (a b c:V3):Bool:=holdsM (ax (nrm a b c)) a b c
def onM (ax:V3→Nat) (P F:List V3) (p:V3):Bool:=F.any fun f=>onT ax (relV P p f.x) (relV P p f.y) (relV P p f.z)
theorem Z7z (P:List V3) (p f:V3):nrm (relV P p f.x) (relV P p f.y) (relV P p f.z)=normal P f:=by
 unfold nrm normal relV
 rw [Ziq]
 simp only [V3.cross,V3.sub]
 refine ⟨?_,?_,?_⟩<;>grind
theorem Good.nz {P F:List V3} (hg:Good P F) {f:V3} (hf:f∈F):normal P f≠V3.zero:=by
 have h:=hg.flat
 unfold flatF at h
 rw [List.findIdx?_eq_none_iff] at h
 have:=h f hf
 unfold isFlat at this
 exact of_decide_eq_false this
theorem Good.nzR {P F:List V3} (hg:Good P F) (p:V3) {f:V3} (hf:f∈F):nrm (relV P p f.x) (relV P p f.y) (relV P p f.z)≠V3.zero:=by
 rw [Z7z];exact hg.nz hf
def OnI (P:List V3) (p f:V3):Prop:=∃ x y z:Int,0≤x∧0≤y∧0≤z∧0 < x+y+z∧cmb3 x y z (relV P p f.x) (relV P p f.y) (relV P p f.z)=V3.zero
theorem Z4x {a b c d:V3}:HitR a b c d 0↔∃ x y z:Int,0≤x∧0≤y∧0≤z∧0 < x+y+z∧cmb3 x y z a b c=V3.zero:=by
 have z0:∀ v:V3,(scal 0 v)=V3.zero:=fun v=>by simp [scal,V3.zero]
 constructor
 ·rintro ⟨k,m,hq,hm,x,y,z,hx,hy,hz,hs,he⟩
  have:k=0:=by
   have h:=(Ztd (a:=0) (b:=1) (c:=k) (d:=m) (by decide) (by omega)).1 (by rw [Zi3];exact hq)
   omega
  subst this
  exact ⟨x,y,z,hx,hy,hz,by omega,by rw [he,z0]⟩
 ·rintro ⟨x,y,z,hx,hy,hz,hs,he⟩
  exact ⟨0,x+y+z,(Zi3 _).symm,hs,x,y,z,hx,hy,hz,rfl,by rw [he,z0]⟩
theorem Z6d {P F:List V3} (hg:Good P F) {p f:V3} (hf:f∈F):onT axP (relV P p f.x) (relV P p f.y) (relV P p f.z)=true↔OnI P p f:=by
 unfold onT OnI
 rw [Zrk (d:=V3.zero) (Zr8 (hg.nzR p hf)),Z4x]
theorem Zer {P F:List V3} (hg:Good P F) {p:V3}:onM axP P F p=true↔∃ f∈F,OnI P p f:=by
 unfold onM
 rw [List.any_eq_true]
 exact ⟨fun ⟨f,hf,h⟩=>⟨f,hf,(Z6d hg hf).1 h⟩,fun ⟨f,hf,h⟩=>⟨f,hf,(Z6d hg hf).2 h⟩⟩
theorem Yad {P F:List V3} (hg:Good P F) {p:V3} (h:onM axP P F p=false):∀ f∈F,OutF P p f:=by
 intro f hf _ x y z hx hy hz he
 rw [Zuf] at he
 refine Classical.byContradiction fun hn=>?_
 have:onM axP P F p=true:=(Zer hg).2 ⟨f,hf,x,y,z,hx,hy,hz,by omega,he⟩
 rw [h] at this;cases this
/-! the winding number -/
def fineT (d a b c:V3):Bool:=decide (det3 a b c=0)||(decide (det3 d b c≠0)&&decide (det3 a d c≠0)&&decide (det3 a b d≠0))
def fineB (P F:List V3) (p d:V3):Bool:=F.all fun f=>fineT d (relV P p f.x) (relV P p f.y) (relV P p f.z)
theorem Yas {P F:List V3} {p d:V3}:fineB P F p d=true↔Fine P F p d:=by
 unfold fineB Fine fineT
 rw [List.all_eq_true]
 constructor
 ·intro h f hf hD
  have:=h f hf
  simp only [decide_eq_false hD,Bool.false_or,Bool.and_eq_true,decide_eq_true_eq] at this
  exact ⟨by rw [Z5i];exact this.2,this.1.1,by rw [cyc3];exact this.1.2⟩
 ·intro h f hf
  by_cases hD:det3 (relV P p f.x) (relV P p f.y) (relV P p f.z)=0
  ·simp [hD]
  ·obtain ⟨h1,h2,h3⟩:=h f hf hD
   rw [Z5i] at h1
   rw [cyc3] at h3
   simp only [decide_eq_true h1,decide_eq_true h2,decide_eq_true h3,Bool.and_self,Bool.or_true]
def goodT (P F:List V3) (p:V3):Option Nat:=(List.range' 1 1801).find? fun t=>fineB P F p (dirT t)
def windN (P F:List V3) (p:V3):Int:=match goodT P F p with
 | some t=>windM P F p (dirT t)
 | none=>0
theorem Zd9 {P F:List V3} (hg:Good P F) (p:V3):∃ t,goodT P F p=some t∧1≤t∧t≤1801∧Fine P F p (dirT t):=by
 obtain ⟨t,h1,h2,h3⟩:=Zx5 hg p
 cases h:goodT P F p with
 | none =>
  unfold goodT at h
  rw [List.find?_eq_none] at h
  exact absurd (Yas.2 h3) (h t (by rw [List.mem_range'_1];omega))
 | some s =>
  unfold goodT at h
  have h4:=List.find?_some h
  have h5:=List.mem_of_find?_eq_some h
  rw [List.mem_range'_1] at h5
  exact ⟨s,rfl,by omega,by omega,Yas.1 h4⟩
theorem Zfd {P F:List V3} (hg:Good P F) {p d:V3} (h:onM axP P F p=false) (hd:Fine P F p d):windN P F p=windM P F p d:=by
 obtain ⟨t,h1,_,_,h2⟩:=Zd9 hg p
 unfold windN
 rw [h1]
 exact Zoh hg (Yad hg h) h2 hd
def wndW (P F:List V3) (p:V3):Int × Int :=
 if (flawM P F).1≠0 then (0,350) else if isFar p then (0,2) else if onM axP P F p then (0,8) else (windN P F p,0)
def sideW (P F:List V3) (p:V3):Int × Int :=
 if (flawM P F).1≠0 then (0,350) else if isFar p then (0,2) else if onM axP P F p then (1,0) else if windN P F p≠0 then (2,0) else (0,0)
/-! the first meeting -/
end Go.Sx
