/- Winding numbers, plain: they do not depend on the direction. -/
import Derived.Test.YtkcnpgmgmgepoaaGreatDoorMq1
namespace Go.Sx
open Go
def det3 (u v w:V3):Int:=u.dot (v.cross w)
def hitS (D p1 p2 p3:Int):Int:=if D≠0∧p1.sign=D.sign∧p2.sign=D.sign∧p3.sign=D.sign then D.sign else 0
def ccS (A B P Q:Int):Int:=if A < 0∧0≤B∧0 < P∧Q < 0 then 1 else if 0≤A∧B < 0∧P < 0∧0 < Q then -1 else 0
theorem sign_lt {n:Int}:n.sign < 0↔n < 0:=by
 rcases Int.lt_trichotomy n 0 with h|h|h
 ·rw [Int.sign_eq_neg_one_of_neg h];omega
 ·subst h;simp
 ·rw [Int.sign_eq_one_of_pos h];omega
theorem sign_gt {n:Int}:0 < n.sign↔0 < n:=by
 rcases Int.lt_trichotomy n 0 with h|h|h
 ·rw [Int.sign_eq_neg_one_of_neg h];omega
 ·subst h;simp
 ·rw [Int.sign_eq_one_of_pos h];omega
theorem sign_ge {n:Int}:0≤n.sign↔0≤n:=by
 have:=@sign_lt n;omega
theorem ccS_sign (A B P Q:Int):ccS A B P Q=ccS A.sign B.sign P.sign Q.sign:=by
 unfold ccS
 simp only [sign_lt,sign_gt,sign_ge]
theorem sign_sign (n:Int):n.sign.sign=n.sign:=by
 rcases Int.lt_trichotomy n 0 with h|h|h
 ·rw [Int.sign_eq_neg_one_of_neg h];rfl
 ·subst h;rfl
 ·rw [Int.sign_eq_one_of_pos h];rfl
theorem sign_ne {n:Int}:n.sign≠0↔n≠0:=by
 rw [ne_eq,Int.sign_eq_zero_iff_zero]
theorem hitS_sign (D p1 p2 p3:Int):hitS D p1 p2 p3=hitS D.sign p1.sign p2.sign p3.sign:=by
 unfold hitS
 simp only [sign_sign,sign_ne]
theorem ccS_swap (A B P Q:Int):ccS B A (-P) (-Q)=- ccS A B P Q:=by
 unfold ccS
 split
 ·split
  ·omega
  ·split<;>omega
 ·split
  ·split
   ·omega
   ·split<;>omega
  ·split
   ·omega
   ·split<;>omega
def rel3 (a b c:Int):Bool:=!((decide (0≤a)&&decide (0≤b)&&decide (0≤c)&&(decide (0 < a)||decide (0 < b)||decide (0 < c)))||(decide (a≤0)&&decide (b≤0)&&decide (c≤0)&&(decide (a < 0)||decide (b < 0)||decide (c < 0))))
def ag2 (s t r:Int):Bool:=decide (s≠-t)||decide (s=0)||decide (r=s)
def S3:List Int:=[-1,0,1]
def S2:List Int:=[-1,1]
def core1 (D p1 p2 p3 q1 q2 q3 A B C:Int):Bool :=
 !(ag2 (p2 * q3) (p3 * q2) (D * A)&&ag2 (p3 * q1) (p1 * q3) (D * B)&&ag2 (p1 * q2) (p2 * q1) (D * C)&&rel3 (p1 * A) (p2 * B) (p3 * C)&&rel3 (q1 * A) (q2 * B) (q3 * C)&&!(decide (A=0)&&decide (B=0)&&decide (C=0))) ||
 decide (hitS D p1 p2 p3 - hitS D q1 q2 q3=ccS A B p3 q3+ccS B C p1 q1+ccS C A p2 q2)
theorem core1_all:∀ D∈S2,∀ p1∈S2,∀ p2∈S2,∀ p3∈S2,∀ q1∈S2,∀ q2∈S2,∀ q3∈S2,∀ A∈S3,∀ B∈S3,∀ C∈S3,core1 D p1 p2 p3 q1 q2 q3 A B C=true:=by decide +kernel
def core0 (p1 p2 p3 q1 q2 q3 A B C:Int):Bool :=
 !(decide (p2 * q3=p3 * q2)&&decide (p3 * q1=p1 * q3)&&decide (p1 * q2=p2 * q1)&&(decide (p1=0) == decide (q1=0))&&(decide (p2=0) == decide (q2=0))&&(decide (p3=0) == decide (q3=0))&&rel3 p1 p2 p3&&rel3 (p1 * A) (p2 * B) (p3 * C)) ||
 decide (ccS A B p3 q3+ccS B C p1 q1+ccS C A p2 q2=0)
theorem core0_all:∀ p1∈S3,∀ p2∈S3,∀ p3∈S3,∀ q1∈S3,∀ q2∈S3,∀ q3∈S3,∀ A∈S3,∀ B∈S3,∀ C∈S3,core0 p1 p2 p3 q1 q2 q3 A B C=true:=by decide +kernel
theorem sign_S3 (n:Int):n.sign∈S3:=by
 rcases Int.lt_trichotomy n 0 with h|h|h
 ·rw [Int.sign_eq_neg_one_of_neg h];decide
 ·subst h;decide
 ·rw [Int.sign_eq_one_of_pos h];decide
theorem sign_S2 {n:Int} (h0:n≠0):n.sign∈S2:=by
 rcases Int.lt_trichotomy n 0 with h|h|h
 ·rw [Int.sign_eq_neg_one_of_neg h];decide
 ·exact absurd h h0
 ·rw [Int.sign_eq_one_of_pos h];decide
theorem rel3_of {a b c:Int} (h:a+b+c=0):rel3 a.sign b.sign c.sign=true:=by
 unfold rel3
 have e1:=@sign_lt a;have e2:=@sign_gt a;have e3:=@sign_ge a
 have f1:=@sign_lt b;have f2:=@sign_gt b;have f3:=@sign_ge b
 have g1:=@sign_lt c;have g2:=@sign_gt c;have g3:=@sign_ge c
 rw [Bool.not_eq_true',← Bool.not_eq_true]
 simp only [Bool.or_eq_true,Bool.and_eq_true,decide_eq_true_eq]
 omega
theorem ag2_of {x y:Int}:ag2 x.sign y.sign (x - y).sign=true:=by
 unfold ag2
 rcases Int.lt_trichotomy x 0 with h|h|h
 ·rcases Int.lt_trichotomy y 0 with k|k|k
  ·rw [Int.sign_eq_neg_one_of_neg h,Int.sign_eq_neg_one_of_neg k];rfl
  ·subst k;rw [Int.sign_eq_neg_one_of_neg h];rfl
  ·rw [Int.sign_eq_neg_one_of_neg h,Int.sign_eq_one_of_pos k,Int.sign_eq_neg_one_of_neg (show x - y < 0 by omega)];rfl
 ·subst h;simp
 ·rcases Int.lt_trichotomy y 0 with k|k|k
  ·rw [Int.sign_eq_one_of_pos h,Int.sign_eq_neg_one_of_neg k,Int.sign_eq_one_of_pos (show 0 < x - y by omega)];rfl
  ·subst k;rw [Int.sign_eq_one_of_pos h];rfl
  ·rw [Int.sign_eq_one_of_pos h,Int.sign_eq_one_of_pos k];rfl
theorem hit_diff {D p1 p2 p3 q1 q2 q3 A B C:Int} (hD:D≠0) (h1:p1≠0) (h2:p2≠0) (h3:p3≠0) (k1:q1≠0) (k2:q2≠0) (k3:q3≠0)
  (hA:D * A=p2 * q3 - p3 * q2) (hB:D * B=p3 * q1 - p1 * q3) (hC:D * C=p1 * q2 - p2 * q1) (hne:¬ (A=0∧B=0∧C=0)) (hp:p1 * A+p2 * B+p3 * C=0) (hq:q1 * A+q2 * B+q3 * C=0) :
  hitS D p1 p2 p3 - hitS D q1 q2 q3=ccS A B p3 q3+ccS B C p1 q1+ccS C A p2 q2:=by
 have h:=core1_all _ (sign_S2 hD) _ (sign_S2 h1) _ (sign_S2 h2) _ (sign_S2 h3) _ (sign_S2 k1) _ (sign_S2 k2) _ (sign_S2 k3) _ (sign_S3 A) _ (sign_S3 B) _ (sign_S3 C)
 rw [hitS_sign,hitS_sign D q1,ccS_sign,ccS_sign B C,ccS_sign C A]
 unfold core1 at h
 rw [Bool.or_eq_true,decide_eq_true_eq] at h
 refine h.resolve_left ?_
 rw [Bool.not_eq_true',Bool.not_eq_false]
 simp only [Bool.and_eq_true]
 have a1:=ag2_of (x:=p2 * q3) (y:=p3 * q2)
 have a2:=ag2_of (x:=p3 * q1) (y:=p1 * q3)
 have a3:=ag2_of (x:=p1 * q2) (y:=p2 * q1)
 rw [← hA] at a1
 rw [← hB] at a2
 rw [← hC] at a3
 have r1:=rel3_of hp
 have r2:=rel3_of hq
 simp only [Int.sign_mul] at a1 a2 a3 r1 r2
 refine ⟨⟨⟨⟨⟨a1,a2⟩,a3⟩,r1⟩,r2⟩,?_⟩
 rw [Bool.not_eq_true',← Bool.not_eq_true]
 simp only [Bool.and_eq_true,decide_eq_true_eq,Int.sign_eq_zero_iff_zero]
 exact fun h=>hne ⟨h.1.1,h.1.2,h.2⟩
theorem flat_diff {p1 p2 p3 q1 q2 q3 A B C:Int} (h1:p1=0↔q1=0) (h2:p2=0↔q2=0) (h3:p3=0↔q3=0)
  (hA:p2 * q3=p3 * q2) (hB:p3 * q1=p1 * q3) (hC:p1 * q2=p2 * q1) (hm:rel3 p1.sign p2.sign p3.sign=true) (hp:p1 * A+p2 * B+p3 * C=0) :
  ccS A B p3 q3+ccS B C p1 q1+ccS C A p2 q2=0:=by
 have h:=core0_all _ (sign_S3 p1) _ (sign_S3 p2) _ (sign_S3 p3) _ (sign_S3 q1) _ (sign_S3 q2) _ (sign_S3 q3) _ (sign_S3 A) _ (sign_S3 B) _ (sign_S3 C)
 rw [ccS_sign,ccS_sign B C,ccS_sign C A]
 unfold core0 at h
 rw [Bool.or_eq_true,decide_eq_true_eq] at h
 refine h.resolve_left ?_
 rw [Bool.not_eq_true',Bool.not_eq_false]
 simp only [Bool.and_eq_true,decide_eq_true_eq,beq_iff_eq]
 have r1:=rel3_of hp
 simp only [Int.sign_mul] at r1
 have e:∀ {x y:Int},(x=0↔y=0)→decide (x.sign=0)=decide (y.sign=0):=fun {x y} h=>by
  rw [Bool.eq_iff_iff]
  simp only [decide_eq_true_eq,Int.sign_eq_zero_iff_zero]
  exact h
 refine ⟨⟨⟨⟨⟨⟨⟨?_,?_⟩,?_⟩,e h1⟩,e h2⟩,e h3⟩,hm⟩,r1⟩
 ·rw [← Int.sign_mul,← Int.sign_mul,hA]
 ·rw [← Int.sign_mul,← Int.sign_mul,hB]
 ·rw [← Int.sign_mul,← Int.sign_mul,hC]
/-! vectors -/
theorem V3.ext' {u v:V3} (h1:u.x=v.x) (h2:u.y=v.y) (h3:u.z=v.z):u=v:=by
 obtain ⟨_,_,_⟩:=u;obtain ⟨_,_,_⟩:=v;simp only at h1 h2 h3;subst h1 h2 h3;rfl
def V3.smul (k:Int) (v:V3):V3:=⟨k * v.x,k * v.y,k * v.z⟩
def V3.plus (a b:V3):V3:=⟨a.x+b.x,a.y+b.y,a.z+b.z⟩
theorem cramer (d a b c:V3):V3.smul (det3 a b c) d=((V3.smul (det3 d b c) a).plus (V3.smul (det3 d c a) b)).plus (V3.smul (det3 d a b) c):=by
 simp only [V3.smul,V3.plus,det3,V3.dot,V3.cross,V3.mk.injEq]
 refine ⟨?_,?_,?_⟩<;>grind
theorem det_rel1 (d e a b c:V3):det3 a b c * det3 d e a=det3 d c a * det3 e a b - det3 d a b * det3 e c a:=by
 simp only [det3,V3.dot,V3.cross];grind
theorem det_rel2 (d e a b c:V3):det3 a b c * det3 d e b=det3 d a b * det3 e b c - det3 d b c * det3 e a b:=by
 simp only [det3,V3.dot,V3.cross];grind
theorem det_rel3 (d e a b c:V3):det3 a b c * det3 d e c=det3 d b c * det3 e c a - det3 d c a * det3 e b c:=by
 simp only [det3,V3.dot,V3.cross];grind
theorem det_sum (d e a b c:V3):det3 d b c * det3 d e a+det3 d c a * det3 d e b+det3 d a b * det3 d e c=0:=by
 simp only [det3,V3.dot,V3.cross];grind
theorem det_sum' (d e a b c:V3):det3 e b c * det3 d e a+det3 e c a * det3 d e b+det3 e a b * det3 d e c=0:=by
 simp only [det3,V3.dot,V3.cross];grind
theorem det_par (d e a b c:V3):V3.smul (det3 a b c) (d.cross e)=((V3.smul (det3 d e a) (b.cross c)).plus (V3.smul (det3 d e b) (c.cross a))).plus (V3.smul (det3 d e c) (a.cross b)):=by
 simp only [V3.smul,V3.plus,det3,V3.dot,V3.cross,V3.mk.injEq]
 refine ⟨?_,?_,?_⟩<;>grind
theorem det_swap (d a b:V3):det3 d b a=- det3 d a b:=by
 simp only [det3,V3.dot,V3.cross];grind
theorem det_cyc (a b c:V3):det3 a b c=det3 b c a:=by
 simp only [det3,V3.dot,V3.cross];grind
def Out3 (a b c:V3):Prop:=∀ x y z:Int,0≤x→0≤y→0≤z→((V3.smul x a).plus (V3.smul y b)).plus (V3.smul z c)=V3.zero→x=0∧y=0∧z=0
def Clear (d a b:V3):Prop:=a.cross b≠V3.zero→det3 d a b≠0
theorem det_zero {d a b:V3} (h:a.cross b=V3.zero):det3 d a b=0:=by
 unfold det3;rw [h];simp [V3.dot,V3.zero]
theorem cross_ne {a b c:V3} (h:det3 a b c≠0):a.cross b≠V3.zero∧b.cross c≠V3.zero∧c.cross a≠V3.zero:=by
 refine ⟨fun e=>h ?_,fun e=>h ?_,fun e=>h ?_⟩
 ·rw [det_cyc,det_cyc];exact det_zero e
 ·exact det_zero e
 ·rw [det_cyc];exact det_zero e
def hit3 (d a b c:V3):Int:=hitS (det3 a b c) (det3 d b c) (det3 d c a) (det3 d a b)
def cross3 (d e a b:V3):Int:=ccS (det3 d e a) (det3 d e b) (det3 d a b) (det3 e a b)
theorem cross3_swap (d e a b:V3):cross3 d e b a=- cross3 d e a b:=by
 unfold cross3
 rw [det_swap d a b,det_swap e a b,ccS_swap]
theorem face_diff {d e a b c:V3} (hd:d.cross e≠V3.zero) (d1:Clear d a b) (d2:Clear d b c) (d3:Clear d c a) (e1:Clear e a b) (e2:Clear e b c) (e3:Clear e c a) (ho:det3 a b c=0→Out3 a b c) :
  hit3 d a b c - hit3 e a b c=cross3 d e a b+cross3 d e b c+cross3 d e c a:=by
 unfold hit3 cross3
 by_cases hD:det3 a b c=0
 ·have z:∀ p1 p2 p3,hitS (det3 a b c) p1 p2 p3=0:=fun _ _ _=>by unfold hitS;rw [if_neg fun h=>h.1 hD]
  rw [z,z]
  have iff0:∀ {u v:V3},Clear d u v→Clear e u v→(det3 d u v=0↔det3 e u v=0):=fun {u v} h1 h2=>by
   by_cases hc:u.cross v=V3.zero
   ·simp only [det_zero hc]
   ·have:=h1 hc;have:=h2 hc;omega
  have r1:=det_rel1 d e a b c
  have r2:=det_rel2 d e a b c
  have r3:=det_rel3 d e a b c
  rw [hD,Int.zero_mul] at r1 r2 r3
  have hz:=cramer d a b c
  rw [hD] at hz
  have hz0:V3.smul 0 d=V3.zero:=by simp [V3.smul,V3.zero]
  rw [hz0] at hz
  have hm:rel3 (det3 d b c).sign (det3 d c a).sign (det3 d a b).sign=true:=by
   generalize det3 d b c=p1 at hz
   generalize det3 d c a=p2 at hz
   generalize det3 d a b=p3 at hz
   have k1:=fun h1 h2 h3=>ho hD p1 p2 p3 h1 h2 h3 hz.symm
   have k2:=fun h1 h2 h3=>ho hD (-p1) (-p2) (-p3) h1 h2 h3 (by
        simp only [V3.smul,V3.plus,V3.zero,V3.mk.injEq] at hz ⊢
        obtain ⟨z1,z2,z3⟩:=hz
        simp only [Int.neg_mul]
        omega)
   unfold rel3
   rw [Bool.not_eq_true',← Bool.not_eq_true]
   simp only [Bool.or_eq_true,Bool.and_eq_true,decide_eq_true_eq]
   have e1:=@sign_lt p1;have e2:=@sign_gt p1;have e3:=@sign_ge p1
   have f1:=@sign_lt p2;have f2:=@sign_gt p2;have f3:=@sign_ge p2
   have g1:=@sign_lt p3;have g2:=@sign_gt p3;have g3:=@sign_ge p3
   rintro (⟨⟨⟨h1,h2⟩,h3⟩,h4⟩|⟨⟨⟨h1,h2⟩,h3⟩,h4⟩)
   ·have:=k1 (by omega) (by omega) (by omega)
    omega
   ·have:=k2 (by omega) (by omega) (by omega)
    omega
  rw [Int.sub_self]
  exact (flat_diff (iff0 d2 e2) (iff0 d3 e3) (iff0 d1 e1) (by omega) (by omega) (by omega) hm (det_sum d e a b c)).symm
 ·obtain ⟨n3,n1,n2⟩:=cross_ne hD
  exact hit_diff hD (d2 n1) (d3 n2) (d1 n3) (e2 n1) (e3 n2) (e1 n3) (det_rel1 d e a b c) (det_rel2 d e a b c) (det_rel3 d e a b c) (fun h=>hd (by
   have:=det_par d e a b c
   obtain ⟨h1,h2,h3⟩:=h
   rw [h1,h2,h3] at this
   generalize d.cross e=n at this
   obtain ⟨n1,n2,n3⟩:=n
   simp only [V3.smul,V3.plus,Int.zero_mul,Int.add_zero,V3.mk.injEq] at this
   obtain ⟨t1,t2,t3⟩:=this
   have g:∀ {x:Int},det3 a b c * x=0→x=0:=fun h=>(Int.mul_eq_zero.1 h).resolve_left hD
   rw [g t1,g t2,g t3];rfl)) (det_sum d e a b c) (det_sum' d e a b c)
/-! a mesh, seen from a point -/
def relV (P:List V3) (p:V3) (i:Int):V3:=(ptAt P i).sub p
def hitF (P:List V3) (p d f:V3):Int:=hit3 d (relV P p f.x) (relV P p f.y) (relV P p f.z)
def windM (P F:List V3) (p d:V3):Int:=F.foldl (fun s f=>s+hitF P p d f) 0
theorem sum_edges {g:V3→Int} {h:Edg→Int} {F:List V3} (he:∀ f∈F,g f=h (f.x,f.y)+h (f.y,f.z)+h (f.z,f.x)):∀ {k:Nat},k≤F.length→(F.take k).foldl (fun s f=>s+g f) 0=sumE h (edgesL F (3 * k))
 | 0,_=>by simp [edgesL,sumE]
 | k + 1,hk=>by
  have ih:=sum_edges he (k:=k) (by omega)
  have hf:F[k]?=some F[k]:=List.getElem?_eq_getElem (by omega)
  have hg:=he F[k] (List.getElem_mem _)
  generalize F[k]=f at hf hg
  have e1:edgesL F (3 * (k+1))=edgesL F (3 * k)++[(f.x,f.y),(f.y,f.z),(f.z,f.x)]:=by
     rw [show 3 * (k+1)=3 * k+1+1+1 from rfl,edgesL_succ,edgesL_succ,edgesL_succ,edgeAt0 hf,edgeAt1 hf,edgeAt2 hf]
     simp
  rw [take_succ_foldl hf,ih,e1,sumE_append,hg]
  simp [sumE];omega
theorem Good.zero {P F:List V3} (hg:Good P F) {h:Edg→Int} (hs:∀ u,h u.swap=- h u) {g:V3→Int} (he:∀ f∈F,g f=h (f.x,f.y)+h (f.y,f.z)+h (f.z,f.x)):F.foldl (fun s f=>s+g f) 0=0:=by
 have:=sum_edges he (Nat.le_refl _)
 rw [List.take_length] at this
 rw [this]
 exact sumE_zero hs (hg.nodup (Nat.le_refl _)) fun u hu=>hg.swap hu
theorem fold_sub {g h:V3→Int}:∀ (F:List V3) (s t:Int),F.foldl (fun s f=>s+(g f - h f)) (s - t)=F.foldl (fun s f=>s+g f) s - F.foldl (fun s f=>s+h f) t
 | [],_,_=>rfl
 | f::F,s,t=>by
  rw [List.foldl_cons,List.foldl_cons,List.foldl_cons,← fold_sub F]
  congr 1;omega
theorem fold_congr {g h:V3→Int}:∀ (F:List V3) (s:Int),(∀ f∈F,g f=h f)→F.foldl (fun s f=>s+g f) s=F.foldl (fun s f=>s+h f) s
 | [],_,_=>rfl
 | f::F,s,he=>by
  rw [List.foldl_cons,List.foldl_cons,he f (List.mem_cons_self ..)]
  exact fold_congr F _ fun x hx=>he x (List.mem_cons_of_mem _ hx)
def ClearF (P:List V3) (p d f:V3):Prop:=Clear d (relV P p f.x) (relV P p f.y)∧Clear d (relV P p f.y) (relV P p f.z)∧Clear d (relV P p f.z) (relV P p f.x)
def OutF (P:List V3) (p f:V3):Prop:=det3 (relV P p f.x) (relV P p f.y) (relV P p f.z)=0→Out3 (relV P p f.x) (relV P p f.y) (relV P p f.z)
theorem wind_clear {P F:List V3} (hg:Good P F) {p d e:V3} (hx:d.cross e≠V3.zero) (ho:∀ f∈F,OutF P p f) (hd:∀ f∈F,ClearF P p d f) (he:∀ f∈F,ClearF P p e f):windM P F p d=windM P F p e:=by
 have h:=hg.zero (h:=fun u=>cross3 d e (relV P p u.1) (relV P p u.2)) (fun u=>cross3_swap d e (relV P p u.1) (relV P p u.2)) (g:=fun f=>hitF P p d f - hitF P p e f) (fun f hf=>by
  obtain ⟨d1,d2,d3⟩:=hd f hf
  obtain ⟨e1,e2,e3⟩:=he f hf
  exact face_diff hx d1 d2 d3 e1 e2 e3 (ho f hf))
 have h2:=fold_sub (g:=hitF P p d) (h:=hitF P p e) F 0 0
 rw [Int.sub_self] at h2
 unfold windM
 omega
/-! directions that are clear of finitely many planes -/
def dirT (t:Nat):V3:=⟨1,t,(t:Int) * (t:Int)⟩
theorem dir_one {n:V3} (hn:n≠V3.zero):∃ T:Nat,∀ t,T < t→(dirT t).dot n≠0:=by
 obtain ⟨x,y,z⟩:=n
 refine ⟨x.natAbs+y.natAbs,fun t ht=>?_⟩
 have e:(dirT t).dot ⟨x,y,z⟩=x+(y+(t:Int) * z) * (t:Int):=by simp only [dirT,V3.dot];grind
 rw [e]
 intro h
 have big:∀ {k:Int},k≠0→(t:Int)≤(k * (t:Int)).natAbs:=fun {k} hk=>by
  rw [Int.natAbs_mul,Int.natAbs_natCast]
  have:1 * t≤k.natAbs * t:=Nat.mul_le_mul_right t (by omega)
  omega
 by_cases h1:y+(t:Int) * z=0
 ·rw [h1,Int.zero_mul] at h
  by_cases hz:z=0
  ·subst hz
   have hy:y=0:=by simpa using h1
   have hx:x=0:=by omega
   subst hy hx
   exact hn rfl
  ·have:=big hz
   rw [Int.mul_comm] at this
   omega
 ·have:=big h1
  omega
theorem dir_all:∀ L:List V3,∃ T:Nat,∀ t,T < t→∀ n∈L,n≠V3.zero→(dirT t).dot n≠0
 | []=>⟨0,fun _ _ _ h=>by simp at h⟩
 | n :: L=>by
  obtain ⟨T,hT⟩:=dir_all L
  by_cases hn:n=V3.zero
  ·refine ⟨T,fun t ht m hm h0=>?_⟩
   rcases List.mem_cons.1 hm with rfl|hm
   ·exact absurd hn h0
   ·exact hT t ht m hm h0
  ·obtain ⟨S,hS⟩:=dir_one hn
   refine ⟨max S T,fun t ht m hm h0=>?_⟩
   rcases List.mem_cons.1 hm with rfl|hm
   ·exact hS t (by omega)
   ·exact hT t (by omega) m hm h0
def nextTo (d e:V3) (N:Nat):V3:=(V3.smul (N:Int) d).plus e
theorem next_dot {d e n:V3} {N:Nat}:(nextTo d e N).dot n=(N:Int) * d.dot n+e.dot n:=by
 simp only [nextTo,V3.plus,V3.smul,V3.dot];grind
theorem next_sign {x y:Int} {N:Nat} (hx:x≠0) (hN:y.natAbs < N):((N:Int) * x+y).sign=x.sign:=by
 rcases Int.lt_trichotomy x 0 with h|h|h
 ·have:(N:Int) * x≤(N:Int) * (-1):=Int.mul_le_mul_of_nonneg_left (by omega) (by omega)
  rw [Int.sign_eq_neg_one_of_neg h,Int.sign_eq_neg_one_of_neg (by omega)]
 ·exact absurd h hx
 ·have:(N:Int) * 1≤(N:Int) * x:=Int.mul_le_mul_of_nonneg_left (by omega) (by omega)
  rw [Int.sign_eq_one_of_pos h,Int.sign_eq_one_of_pos (by omega)]
theorem next_all (e:V3):∀ L:List V3,∃ M:Nat,∀ n∈L,(e.dot n).natAbs≤M
 | []=>⟨0,fun _ h=>by simp at h⟩
 | n::L=>by
  obtain ⟨M,hM⟩:=next_all e L
  refine ⟨max (e.dot n).natAbs M,fun m hm=>?_⟩
  rcases List.mem_cons.1 hm with rfl|hm
  ·exact Nat.le_max_left _ _
  ·exact Nat.le_trans (hM m hm) (Nat.le_max_right _ _)
def norms (P F:List V3) (p:V3):List V3:=F.flatMap fun f=>[(relV P p f.x).cross (relV P p f.y),(relV P p f.y).cross (relV P p f.z),(relV P p f.z).cross (relV P p f.x)]
theorem norms_mem {P F:List V3} {p f:V3} (hf:f∈F):(relV P p f.x).cross (relV P p f.y)∈norms P F p∧(relV P p f.y).cross (relV P p f.z)∈norms P F p∧(relV P p f.z).cross (relV P p f.x)∈norms P F p:=by
 unfold norms
 refine ⟨?_,?_,?_⟩<;>exact List.mem_flatMap.2 ⟨f,hf,by simp⟩
def Fine (P F:List V3) (p d:V3):Prop:=∀ f∈F,det3 (relV P p f.x) (relV P p f.y) (relV P p f.z)≠0→det3 d (relV P p f.x) (relV P p f.y)≠0∧det3 d (relV P p f.y) (relV P p f.z)≠0∧det3 d (relV P p f.z) (relV P p f.x)≠0
theorem wind_next {P F:List V3} {p d e:V3} {N:Nat} (hd:Fine P F p d) (hN:∀ n∈norms P F p,(e.dot n).natAbs < N):windM P F p (nextTo d e N)=windM P F p d:=by
 refine fold_congr F 0 fun f hf=>?_
 obtain ⟨m1,m2,m3⟩:=norms_mem (P:=P) (p:=p) hf
 unfold hitF hit3
 by_cases hD:det3 (relV P p f.x) (relV P p f.y) (relV P p f.z)=0
 ·unfold hitS;rw [if_neg fun h=>h.1 hD,if_neg fun h=>h.1 hD]
 ·obtain ⟨h1,h2,h3⟩:=hd f hf hD
  have key:∀ {u v:V3},u.cross v∈norms P F p→det3 d u v≠0→(det3 (nextTo d e N) u v).sign=(det3 d u v).sign:=fun {u v} hm h0=>by
   unfold det3 at h0 ⊢
   rw [next_dot]
   exact next_sign h0 (hN _ hm)
  rw [hitS_sign,key m2 h2,key m3 h3,key m1 h1,← hitS_sign]
theorem clear_next {P F:List V3} {p d e:V3} {N:Nat} (he:∀ n∈norms P F p,n≠V3.zero→e.dot n≠0) (hN:∀ n∈norms P F p,(e.dot n).natAbs < N):∀ f∈F,ClearF P p (nextTo d e N) f:=by
 intro f hf
 obtain ⟨m1,m2,m3⟩:=norms_mem (P:=P) (p:=p) hf
 have key:∀ {u v:V3},u.cross v∈norms P F p→Clear (nextTo d e N) u v:=fun {u v} hm h0=>by
  unfold det3
  rw [next_dot]
  by_cases hz:d.dot (u.cross v)=0
  ·rw [hz,Int.mul_zero,Int.zero_add];exact he _ hm h0
  ·have:=next_sign hz (hN _ hm)
   intro h
   rw [h,Int.sign_zero] at this
   exact hz (Int.sign_eq_zero_iff_zero.1 this.symm)
 exact ⟨key m1,key m2,key m3⟩
theorem cross_dir {d:V3} (hd:d≠V3.zero):∃ T:Nat,∀ t,T < t→d.cross (dirT t)≠V3.zero:=by
 obtain ⟨x,y,z⟩:=d
 refine ⟨y.natAbs,fun t ht h=>?_⟩
 simp only [V3.cross,dirT,V3.zero,V3.mk.injEq,Int.mul_one] at h
 obtain ⟨h1,h2,h3⟩:=h
 by_cases hx:x=0
 ·subst hx
  have hz:z=0:=by omega
  have hy:y=0:=by omega
  subst hy hz
  exact hd rfl
 ·have:(t:Int)≤(x * (t:Int)).natAbs:=by
   rw [Int.natAbs_mul,Int.natAbs_natCast]
   have:1 * t≤x.natAbs * t:=Nat.mul_le_mul_right t (by omega)
   omega
  omega
theorem wind_any {P F:List V3} (hg:Good P F) {p d e:V3} (ho:∀ f∈F,OutF P p f) (hd:Fine P F p d) (he:Fine P F p e):windM P F p d=windM P F p e:=by
 by_cases hall:∀ f∈F,det3 (relV P p f.x) (relV P p f.y) (relV P p f.z)=0
 ·refine fold_congr F 0 fun f hf=>?_
  unfold hitF hit3 hitS
  rw [if_neg fun h=>h.1 (hall f hf),if_neg fun h=>h.1 (hall f hf)]
 obtain ⟨f,hf,hD⟩:∃ f∈F,det3 (relV P p f.x) (relV P p f.y) (relV P p f.z)≠0:=by
  refine Classical.byContradiction fun h=>hall fun f hf=>Classical.byContradiction fun h0=>h ⟨f,hf,h0⟩
 have nz:∀ {u:V3},Fine P F p u→u≠V3.zero:=fun {u} hu h0=>by
  have:=(hu f hf hD).1
  rw [h0] at this
  exact this (by simp [det3,V3.dot,V3.zero])
 obtain ⟨T,hT⟩:=dir_all (norms P F p)
 have hn:=hT (T+1) (by omega)
 obtain ⟨M,hM⟩:=next_all (dirT (T+1)) (norms P F p)
 have hN:∀ n∈norms P F p,((dirT (T+1)).dot n).natAbs < M+1:=fun n h=>Nat.lt_succ_of_le (hM n h)
 have cd:=clear_next (d:=d) hn hN
 have ce:=clear_next (d:=e) hn hN
 have wd:=wind_next hd hN
 have we:=wind_next he hN
 have fine_of:∀ {u:V3},(∀ f∈F,ClearF P p u f)→Fine P F p u:=fun {u} h g hg0 hD0=>by
  obtain ⟨n3,n1,n2⟩:=cross_ne hD0
  obtain ⟨c1,c2,c3⟩:=h g hg0
  exact ⟨c1 n3,c2 n1,c3 n2⟩
 obtain ⟨A,hA⟩:=cross_dir (nz (fine_of cd))
 obtain ⟨B,hB⟩:=cross_dir (nz (fine_of ce))
 obtain ⟨t,ht⟩:∃ t,t=max T (max A B)+1:=⟨_,rfl⟩
 have cr:∀ f∈F,ClearF P p (dirT t) f:=fun f hf=>by
  obtain ⟨m1,m2,m3⟩:=norms_mem (P:=P) (p:=p) hf
  have h:=hT t (by omega)
  exact ⟨fun h0=>h _ m1 h0,fun h0=>h _ m2 h0,fun h0=>h _ m3 h0⟩
 rw [← wd,← we,wind_clear hg (hA t (by omega)) ho cd cr,wind_clear hg (hB t (by omega)) ho ce cr]
end Go.Sx
namespace Go.Sx
open Go
theorem half_of_swap {E:List Edg} (hn:E.Nodup) (hs:∀ u∈E,u.swap∈E) (hd:∀ u∈E,u.1≠u.2):2 * (E.filter fun u=>decide (u.1 < u.2)).length=E.length:=by
 have h1:=List.length_eq_countP_add_countP (fun u:Edg=>decide (u.1 < u.2)) (l:=E)
 have h2:=(swap_perm hn hs).countP_eq (fun u:Edg=>decide (u.1 < u.2))
 rw [List.countP_map] at h2
 have h3:E.countP (fun u=>decide ¬decide (u.1 < u.2)=true)=E.countP ((fun u:Edg=>decide (u.1 < u.2)) ∘ Prod.swap):=by
  refine List.countP_congr fun u hu=>?_
  have:=hd u hu
  simp only [decide_eq_true_eq,Function.comp_apply,Prod.fst_swap,Prod.snd_swap]
  omega
 rw [← List.countP_eq_length_filter]
 omega
theorem nodup_le {l m:List Nat} (hn:l.Nodup) (h:∀ x∈l,x∈m):l.length≤m.length:=by
 induction l generalizing m with
 | nil=>simp
 | cons a l ih =>
  rw [List.nodup_cons] at hn
  have ha:a∈m:=h a (List.mem_cons_self ..)
  have:=ih (m:=m.erase a) hn.2 fun x hx=>(List.mem_erase_of_ne (fun e=>hn.1 (by rw [← e];exact hx))).2 (h x (List.mem_cons_of_mem _ hx))
  rw [List.length_erase_of_mem ha] at this
  have:=List.length_pos_of_mem ha
  rw [List.length_cons]
  omega
theorem two_roots {n:V3} (hn:n≠V3.zero):∃ R:List Nat,R.length≤2∧∀ t:Nat,(dirT t).dot n=0→t∈R:=by
 obtain ⟨x,y,z⟩:=n
 have e:∀ t:Nat,(dirT t).dot ⟨x,y,z⟩=x+(t:Int) * y+(t:Int) * (t:Int) * z:=fun t=>by simp only [dirT,V3.dot];grind
 by_cases h0:∃ a:Nat,(dirT a).dot ⟨x,y,z⟩=0
 ·obtain ⟨a,ha⟩:=h0
  rw [e] at ha
  by_cases h1:∃ b:Nat,b≠a∧(dirT b).dot ⟨x,y,z⟩=0
  ·obtain ⟨b,hba,hb⟩:=h1
   rw [e] at hb
   have k1:((b:Int) - a) * (y+((b:Int)+a) * z)=0:=by grind
   have k1:=(Int.mul_eq_zero.1 k1).resolve_left (by omega)
   refine ⟨[a,b],by simp,fun t ht=>?_⟩
   rw [e] at ht
   by_cases hta:t=a
   ·subst hta;simp
   ·have k2:((t:Int) - a) * (y+((t:Int)+a) * z)=0:=by grind
    have k2:=(Int.mul_eq_zero.1 k2).resolve_left (by omega)
    have k3:((t:Int) - b) * z=0:=by grind
    rcases Int.mul_eq_zero.1 k3 with h|h
    ·have:t=b:=by omega
     subst this;simp
    ·exfalso
     subst h
     have hy:y=0:=by simpa using k1
     subst hy
     have hx:x=0:=by simpa using ha
     subst hx
     exact hn rfl
  ·refine ⟨[a],by simp,fun t ht=>?_⟩
   by_cases hta:t=a
   ·subst hta;simp
   ·exact absurd ⟨t,hta,ht⟩ h1
 ·exact ⟨[],by simp,fun t ht=>absurd ⟨t,ht⟩ h0⟩
theorem all_roots:∀ L:List V3,∃ R:List Nat,R.length≤2 * L.length∧∀ t:Nat,∀ n∈L,n≠V3.zero→(dirT t).dot n=0→t∈R
 | []=>⟨[],by simp,fun _ _ h=>by simp at h⟩
 | n :: L=>by
  obtain ⟨R,h1,h2⟩:=all_roots L
  by_cases hn:n=V3.zero
  ·refine ⟨R,by rw [List.length_cons];omega,fun t m hm h0 hz=>?_⟩
   rcases List.mem_cons.1 hm with rfl|hm
   ·exact absurd hn h0
   ·exact h2 t m hm h0 hz
  ·obtain ⟨S,s1,s2⟩:=two_roots hn
   refine ⟨S++R,by rw [List.length_append,List.length_cons];omega,fun t m hm h0 hz=>?_⟩
   rcases List.mem_cons.1 hm with rfl|hm
   ·exact List.mem_append.2 (.inl (s2 t hz))
   ·exact List.mem_append.2 (.inr (h2 t m hm h0 hz))
theorem edge_mem {F:List V3} {f:V3} (hf:f∈F):(f.x,f.y)∈edgesL F (3 * F.length)∧(f.y,f.z)∈edgesL F (3 * F.length)∧(f.z,f.x)∈edgesL F (3 * F.length):=by
 obtain ⟨i,hi,rfl⟩:=List.getElem_of_mem hf
 have hg:F[i]?=some F[i]:=List.getElem?_eq_getElem hi
 have key:∀ k,k < 3→edgeAt F (3 * i+k)∈edgesL F (3 * F.length):=fun k hk=>List.mem_map.2 ⟨3 * i+k,List.mem_range.2 (by omega),rfl⟩
 have k0:=key 0 (by omega)
 have k1:=key 1 (by omega)
 have k2:=key 2 (by omega)
 rw [Nat.add_zero,edgeAt0 hg] at k0
 rw [edgeAt1 hg] at k1
 rw [edgeAt2 hg] at k2
 exact ⟨k0,k1,k2⟩
theorem cross_anti {a b:V3} (h:b.cross a=V3.zero):a.cross b=V3.zero:=by
 simp only [V3.cross,V3.zero,V3.mk.injEq] at h ⊢
 obtain ⟨h1,h2,h3⟩:=h
 refine ⟨?_,?_,?_⟩<;>grind
theorem pick {R:List Nat} {K:Nat} (h:R.length < K):∃ t,1≤t∧t≤K∧t ∉ R:=by
 refine Classical.byContradiction fun hn=>?_
 have:=nodup_le (l:=List.range' 1 K) (m:=R) List.nodup_range' fun t ht=>Classical.byContradiction fun h2=>hn (by
  rw [List.mem_range'_1] at ht
  exact ⟨t,ht.1,by omega,h2⟩)
 rw [List.length_range'] at this
 omega
def edgeN (P:List V3) (p:V3) (u:Edg):V3:=(relV P p u.1).cross (relV P p u.2)
def halfE (F:List V3):List Edg:=(edgesL F (3 * F.length)).filter fun u=>decide (u.1 < u.2)
theorem half_len {P F:List V3} (hg:Good P F):2 * (halfE F).length=3 * F.length:=by
 have hl:=half_of_swap (hg.nodup (Nat.le_refl (3 * F.length))) (fun u hu=>hg.swap (u:=u) hu) fun u hu=>hg.apart2 (u:=u) hu
 have hE:(edgesL F (3 * F.length)).length=3 * F.length:=by simp [edgesL]
 rw [hE] at hl
 exact hl
theorem half_key {P F:List V3} (hg:Good P F) {p:V3} {t:Nat} {R:List Nat} (hR:t ∉ R) (r2:∀ t:Nat,∀ n∈(halfE F).map (edgeN P p),n≠V3.zero→(dirT t).dot n=0→t∈R) {u:Edg} (hu:u∈edgesL F (3 * F.length)) (h0:edgeN P p u≠V3.zero):(dirT t).dot (edgeN P p u)≠0:=by
 intro hz
 rcases Int.lt_or_le u.1 u.2 with h|h
 ·exact hR (r2 t (edgeN P p u) (List.mem_map.2 ⟨u,List.mem_filter.2 ⟨hu,by simpa using h⟩,rfl⟩) h0 hz)
 ·have hlt:u.2 < u.1:=by have:=hg.apart2 hu;omega
  have e:edgeN P p u.swap≠V3.zero:=fun e=>h0 (cross_anti e)
  refine hR (r2 t (edgeN P p u.swap) (List.mem_map.2 ⟨u.swap,List.mem_filter.2 ⟨hg.swap hu,by simpa using hlt⟩,rfl⟩) e ?_)
  have h1:(dirT t).dot (edgeN P p u.swap)=- (dirT t).dot (edgeN P p u):=det_swap _ _ _
  rw [h1,hz];rfl
theorem dir_exists' {P F:List V3} (hg:Good P F) (p:V3) {K:Nat} (hK:3 * F.length < K):∃ t,1≤t∧t≤K∧Fine P F p (dirT t):=by
 have hl:=half_len hg
 obtain ⟨R,r1,r2⟩:=all_roots ((halfE F).map (edgeN P p))
 rw [List.length_map] at r1
 obtain ⟨t,t1,t2,hR⟩:=pick (R:=R) (K:=K) (by omega)
 refine ⟨t,t1,t2,fun f hf hD=>?_⟩
 obtain ⟨n3,n1,n2⟩:=cross_ne hD
 obtain ⟨m1,m2,m3⟩:=edge_mem hf
 have h1:=half_key hg hR r2 m1 n3
 have h2:=half_key hg hR r2 m2 n1
 have h3:=half_key hg hR r2 m3 n2
 clear r2 hR r1 hK hl
 unfold edgeN at h1 h2 h3
 unfold det3
 exact ⟨h1,h2,h3⟩
theorem dir_exists {P F:List V3} (hg:Good P F) (p:V3):∃ t,1≤t∧t≤1801∧Fine P F p (dirT t) :=
 dir_exists' hg p (by have:=hg.f600;omega)
end Go.Sx
namespace Go.Sx
open Go
/-! fractions of integers -/
def qI (n d:Int):Rat:=mkRat (if d < 0 then -n else n) d.natAbs
theorem qI_div {n d:Int}:qI n d=Rat.divInt n d:=by
 unfold qI
 cases d with
 | ofNat d =>
  have h:¬ (Int.ofNat d) < 0:=by have:=Int.natCast_nonneg d;exact Int.not_lt.2 this
  rw [if_neg h];rfl
 | negSucc d =>
  rw [if_pos (Int.negSucc_lt_zero d)]
  rw [Rat.divInt,← Rat.normalize_eq_mkRat (by omega)]
  rfl
theorem qI_eq {a b c d:Int} (hb:b≠0) (hd:d≠0):qI a b=qI c d↔a * d=c * b:=by
 rw [qI_div,qI_div,Rat.divInt_eq_divInt_iff hb hd]
theorem qI_quot {n d:Int}:qI n d=(n:Rat) / (d:Rat):=by
 rw [qI_div,Rat.divInt_eq_div]
theorem qI_nonneg {n d:Int} (hd:d≠0):0≤qI n d↔0≤n * d:=by
 unfold qI
 have e:(0:Rat)≤mkRat (if d < 0 then -n else n) d.natAbs↔0≤(if d < 0 then -n else n):=by
  rw [← Rat.num_nonneg]
  have e0:d.natAbs≠0:=by omega
  rw [← Rat.normalize_eq_mkRat e0,Rat.normalize_eq]
  have hg:0 < Nat.gcd (if d < 0 then -n else n).natAbs d.natAbs:=Nat.gcd_pos_of_pos_right _ (by omega)
  simp only
  generalize (if d < 0 then -n else n)=y at *
  rw [Int.le_ediv_iff_mul_le (by omega),Int.zero_mul]
 rw [e]
 by_cases h:d < 0
 ·rw [if_pos h]
  constructor
  ·intro h1;exact Int.mul_nonneg_of_nonpos_of_nonpos (by omega) (by omega)
  ·intro h1
   rcases Int.lt_or_le 0 n with h2|h2
   ·have:=Int.mul_neg_of_pos_of_neg h2 h;omega
   ·omega
 ·rw [if_neg h]
  constructor
  ·intro h1;exact Int.mul_nonneg h1 (by omega)
  ·intro h1
   rcases Int.lt_or_le n 0 with h2|h2
   ·have:=Int.mul_neg_of_neg_of_pos h2 (show 0 < d by omega);omega
   ·exact h2
theorem qI_zero (d:Int):qI 0 d=0:=by
 unfold qI;split<;>simp
/-! spans of numbers -/
structure Spn where
 low:Rat
 high:Rat
 opn:Bool
def Spn.ne (s:Spn):Prop:=s.opn=true∨s.low≤s.high
instance (s:Spn):Decidable s.ne:=by unfold Spn.ne;infer_instance
def cutV (s:Spn) (u v:Int):Spn :=
 if 0 < v∧s.low < qI (-u) v then { s with low:=qI (-u) v }
 else if v < 0∧(s.opn=true∨qI (-u) v < s.high) then { s with high:=qI (-u) v,opn:=false } else s
def cutS (s:Spn) (u v:Int):Option Spn :=
 if v=0 then (if 0≤u then some s else none) else if (cutV s u v).ne then some (cutV s u v) else none
def cutR (s:Spn) (u v:Int):Option Spn :=
 if v=0 then (if 0≤u then some s else none) else some (cutV s u v)
theorem cutS_ne {s t:Spn} {u v:Int} (hs:s.ne) (h:cutS s u v=some t):t.ne:=by
 unfold cutS at h
 split at h
 ·split at h
  ·rw [← Option.some.inj h];exact hs
  ·cases h
 ·split at h
  ·rename_i h1;rw [← Option.some.inj h];exact h1
  ·cases h
theorem scale_sign {u u' α β:Int} (ha:0 < α) (hb:0 < β) (h:α * u=β * u'):(0 < u↔0 < u')∧(u < 0↔u' < 0):=by
 have p1:∀ {α u:Int},0 < α→(0 < α * u↔0 < u):=fun {α u} ha=>⟨fun h=>by
  rcases Int.lt_or_le 0 u with h1|h1
  ·exact h1
  ·have:=Int.mul_le_mul_of_nonneg_left h1 (Int.le_of_lt ha)
   rw [Int.mul_zero] at this
   omega,fun h=>Int.mul_pos ha h⟩
 have n1:∀ {α u:Int},0 < α→(α * u < 0↔u < 0):=fun {α u} ha=>by
  have:=p1 (u:=-u) ha
  rw [Int.mul_neg] at this
  omega
 exact ⟨by rw [← p1 ha,h,p1 hb],by rw [← n1 ha,h,n1 hb]⟩
/-! faces as seen from a point -/
def V3.proj (k:Nat) (v:V3):Int:=if k=0 then v.x else if k=1 then v.y else v.z
def axP (n:V3):Nat:=if n.z≠0 then 2 else if n.y≠0 then 1 else 0
def axR (n:V3):Nat:=if n.x≠0 then 0 else if n.y≠0 then 1 else if n.z≠0 then 2 else 0
theorem axP_ne {n:V3} (h:n≠V3.zero):n.proj (axP n)≠0:=by
 obtain ⟨x,y,z⟩:=n
 unfold axP V3.proj
 simp only [V3.zero,ne_eq,V3.mk.injEq] at h ⊢
 split<;>(try split)<;>simp_all
def nrm (a b c:V3):V3:=(b.sub a).cross (c.sub a)
theorem share_sum (a b c d:V3):det3 d b c+det3 a d c+det3 a b d=(nrm a b c).dot d:=by
 simp only [nrm,det3,V3.dot,V3.cross,V3.sub];grind
theorem cramer' (a b c d:V3):det3 a b c * d.x=det3 d b c * a.x+det3 a d c * b.x+det3 a b d * c.x∧det3 a b c * d.y=det3 d b c * a.y+det3 a d c * b.y+det3 a b d * c.y∧det3 a b c * d.z=det3 d b c * a.z+det3 a d c * b.z+det3 a b d * c.z:=by
 simp only [det3,V3.dot,V3.cross]
 refine ⟨?_,?_,?_⟩<;>grind
def hfU (k:Nat) (n a b:V3):Int:=(n.proj k).sign * (a.cross b).proj k
def hfV (k:Nat) (n a b d:V3):Int:=(n.proj k).sign * ((b.sub a).cross d).proj k
def natI (x:Int):Int:=(x.natAbs:Int)
theorem sign_mulI (x:Int):x.sign * x=natI x∧(0 < x.sign↔0 < x)∧(x.sign < 0↔x < 0):=by
 refine ⟨Int.sign_mul_self x,?_,?_⟩
 ·rcases Int.lt_trichotomy x 0 with h|h|h
  ·rw [Int.sign_eq_neg_one_of_neg h];omega
  ·subst h;simp
  ·rw [Int.sign_eq_one_of_pos h];omega
 ·rcases Int.lt_trichotomy x 0 with h|h|h
  ·rw [Int.sign_eq_neg_one_of_neg h];omega
  ·subst h;simp
  ·rw [Int.sign_eq_one_of_pos h];omega
theorem natI_pos {x:Int} (h:x≠0):0 < natI x:=by unfold natI;omega
def cut3R (s:Spn) (k:Nat) (n a b c d:V3):Option Spn :=
 ((cutR s (hfU k n a b) (hfV k n a b d)).bind fun s=>cutR s (hfU k n b c) (hfV k n b c d)).bind fun s=>cutR s (hfU k n c a) (hfV k n c a d)
def cut3S (s:Spn) (k:Nat) (n a b c d:V3):Option Spn :=
 ((cutS s (hfU k n a b) (hfV k n a b d)).bind fun s=>cutS s (hfU k n b c) (hfV k n b c d)).bind fun s=>cutS s (hfU k n c a) (hfV k n c a d)
def holdsM (k:Nat) (a b c:V3):Bool:=decide (det3 a b c=0∧0≤hfU k (nrm a b c) a b∧0≤hfU k (nrm a b c) b c∧0≤hfU k (nrm a b c) c a)
def path0 (beyond:Bool):Spn:=⟨0,1,beyond⟩
theorem path_ne (beyond:Bool):(path0 beyond).ne:=.inr (show (0:Rat)≤1 by decide)
def metP (beyond:Bool) (a b c d:V3):Option Rat :=
 if det3 a b c≠0 then
    if (det3 d b c).sign * (det3 a b c).sign < 0∨(det3 a d c).sign * (det3 a b c).sign < 0∨(det3 a b d).sign * (det3 a b c).sign < 0 then none
    else if beyond=true∨qI (det3 a b c) (det3 d b c+det3 a d c+det3 a b d)≤1 then some (qI (det3 a b c) (det3 d b c+det3 a d c+det3 a b d)) else none
 else if (nrm a b c).dot d≠0 then (if holdsM (axP (nrm a b c)) a b c then some 0 else none)
 else (cut3S (path0 beyond) (axP (nrm a b c)) (nrm a b c) a b c d).map (·.low)
def metR (beyond:Bool) (a b c d:V3):Option Rat :=
 if (nrm a b c).dot d≠0 then
    if (det3 d a b < 0∨det3 d b c < 0∨det3 d c a < 0)∧(0 < det3 d a b∨0 < det3 d b c∨0 < det3 d c a) then none
    else if 0≤qI ((nrm a b c).dot a) ((nrm a b c).dot d)∧(beyond=true∨¬ 1 < qI ((nrm a b c).dot a) ((nrm a b c).dot d)) then some (qI ((nrm a b c).dot a) ((nrm a b c).dot d)) else none
 else if (nrm a b c).dot a≠0 then none
 else ((cut3R (path0 beyond) (axR (nrm a b c)) (nrm a b c) a b c d).bind fun t=>if t.ne then some t else none).map (·.low)
theorem sgn_prod {x y:Int}:x.sign * y.sign < 0↔x * y < 0:=by
 rw [← Int.sign_mul]
 exact (sign_mulI (x * y)).2.2
theorem cyc3 (d c a:V3):det3 d c a=det3 a d c:=by simp only [det3,V3.dot,V3.cross];grind
theorem cyc3' (d a b:V3):det3 d a b=det3 a b d:=by simp only [det3,V3.dot,V3.cross];grind
end Go.Sx
namespace Go.Sx
open Go
def cmb3 (x y z:Int) (a b c:V3):V3:=⟨x * a.x+y * b.x+z * c.x,x * a.y+y * b.y+z * c.y,x * a.z+y * b.z+z * c.z⟩
def scal (k:Int) (v:V3):V3:=⟨k * v.x,k * v.y,k * v.z⟩
def HitI (a b c d:V3) (k m:Int):Prop:=0 < m∧∃ x y z:Int,0≤x∧0≤y∧0≤z∧x+y+z=m∧cmb3 x y z a b c=scal k d
theorem det_move (a b c w:V3):det3 (a.sub w) (b.sub w) (c.sub w)=det3 a b c - (det3 w b c+det3 a w c+det3 a b w):=by
 simp only [det3,V3.dot,V3.cross,V3.sub];grind
theorem share_move (w b c:V3):det3 w (b.sub w) (c.sub w)=det3 w b c:=by
 simp only [det3,V3.dot,V3.cross,V3.sub];grind
theorem det_next (w e b c:V3) (N:Int):det3 ⟨N * w.x+e.x,N * w.y+e.y,N * w.z+e.z⟩ b c=N * det3 w b c+det3 e b c:=by
 simp only [det3,V3.dot,V3.cross];grind
theorem edge_ratio (a b c w e:V3) (h:det3 w b c=0):det3 a b c * det3 e (b.sub w) (c.sub w)=(det3 a b c - (det3 w b c+det3 a w c+det3 a b w)) * det3 e b c:=by
 obtain ⟨a1,a2,a3⟩:=a
 obtain ⟨b1,b2,b3⟩:=b
 obtain ⟨c1,c2,c3⟩:=c
 obtain ⟨w1,w2,w3⟩:=w
 obtain ⟨e1,e2,e3⟩:=e
 simp only [det3,V3.dot,V3.cross,V3.sub] at h ⊢
 grind
theorem sg_iff {x y:Int}:x.sign=y.sign↔((0 < x↔0 < y)∧(x < 0↔y < 0)):=by
 rcases Int.lt_trichotomy x 0 with h|h|h
 ·rw [Int.sign_eq_neg_one_of_neg h]
  rcases Int.lt_trichotomy y 0 with k|k|k
  ·rw [Int.sign_eq_neg_one_of_neg k];omega
  ·subst k;simp;omega
  ·rw [Int.sign_eq_one_of_pos k];omega
 ·subst h
  rcases Int.lt_trichotomy y 0 with k|k|k
  ·rw [Int.sign_eq_neg_one_of_neg k];simp;omega
  ·subst k;simp
  ·rw [Int.sign_eq_one_of_pos k];simp;omega
 ·rw [Int.sign_eq_one_of_pos h]
  rcases Int.lt_trichotomy y 0 with k|k|k
  ·rw [Int.sign_eq_neg_one_of_neg k];omega
  ·subst k;simp;omega
  ·rw [Int.sign_eq_one_of_pos k];omega
theorem hitS_ne {D p1 p2 p3:Int} (h:¬ (p1.sign=D.sign∧p2.sign=D.sign∧p3.sign=D.sign)):hitS D p1 p2 p3=0:=if_neg fun k=>h k.2
theorem seg_core {A S1 S2 S3 P1 P2 P3 Q1 Q2 Q3 E1 E2 E3 F1 F2 F3:Int} {T:Int} (hT:T=S1+S2+S3)
  (p1:S1≠0→P1.sign=S1.sign) (p2:S2≠0→P2.sign=S2.sign) (p3:S3≠0→P3.sign=S3.sign)
  (q1:S1≠0→Q1.sign=S1.sign) (q2:S2≠0→Q2.sign=S2.sign) (q3:S3≠0→Q3.sign=S3.sign)
  (e1:S1=0→P1=E1∧Q1=F1∧A * F1=(A - T) * E1) (e2:S2=0→P2=E2∧Q2=F2∧A * F2=(A - T) * E2) (e3:S3=0→P3=E3∧Q3=F3∧A * F3=(A - T) * E3)
  (h0:S1=0→S2=0→S3=0→A=0)
  (hx:T≠0→0≤S1 * T→0≤S2 * T→0≤S3 * T→A * T < 0∨0 < (A - T) * T) :
  hitS A P1 P2 P3=hitS (A - T) Q1 Q2 Q3:=by
 have key:∀ {S P Q E F:Int},(S≠0→P.sign=S.sign)→(S≠0→Q.sign=S.sign)→(S=0→P=E∧Q=F∧A * F=(A - T) * E)→(0 < A * (A - T))→P.sign=Q.sign:=fun {S P Q E F} p q e ha=>by
  by_cases hs:S=0
  ·obtain ⟨rfl,rfl,h⟩:=e hs
   rw [sg_iff]
   have hA:A≠0:=by rintro rfl;simp at ha
   rcases Int.lt_or_gt_of_ne hA with hA|hA
   ·have hB:A - T < 0:=by
     rcases Int.lt_or_le (A - T) 0 with g|g
     ·exact g
     ·have:=Int.mul_nonpos_of_nonpos_of_nonneg (Int.le_of_lt hA) g;omega
    have s:=scale_sign (α:=-A) (β:=-(A - T)) (u:=Q) (u':=P) (by omega) (by omega) (by grind)
    omega
   ·have hB:0 < A - T:=by
     rcases Int.lt_or_le 0 (A - T) with g|g
     ·exact g
     ·have:=Int.mul_nonpos_of_nonneg_of_nonpos (Int.le_of_lt hA) g;omega
    have s:=scale_sign (α:=A) (β:=A - T) (u:=Q) (u':=P) hA hB h
    omega
  ·rw [p hs,q hs]
 -- two numbers of opposite sign: no hit
 have mixed:∀ {S S':Int},0 < S→S' < 0→∀ {X Y D:Int},X.sign=S.sign→Y.sign=S'.sign→¬ (X.sign=D.sign∧Y.sign=D.sign):=fun {S S'} hs hs' {X Y D} hX hY=>by
  rintro ⟨h1,h2⟩
  rw [hX,Int.sign_eq_one_of_pos hs] at h1
  rw [hY,Int.sign_eq_neg_one_of_neg hs'] at h2
  omega
 by_cases hmix:(0 < S1∨0 < S2∨0 < S3)∧(S1 < 0∨S2 < 0∨S3 < 0)
 ·rw [hitS_ne,hitS_ne]
  ·rintro ⟨g1,g2,g3⟩
   obtain ⟨a|a|a,b|b|b⟩:=hmix
   ·omega
   ·exact mixed a b (q1 (by omega)) (q2 (by omega)) ⟨g1,g2⟩
   ·exact mixed a b (q1 (by omega)) (q3 (by omega)) ⟨g1,g3⟩
   ·exact mixed a b (q2 (by omega)) (q1 (by omega)) ⟨g2,g1⟩
   ·omega
   ·exact mixed a b (q2 (by omega)) (q3 (by omega)) ⟨g2,g3⟩
   ·exact mixed a b (q3 (by omega)) (q1 (by omega)) ⟨g3,g1⟩
   ·exact mixed a b (q3 (by omega)) (q2 (by omega)) ⟨g3,g2⟩
   ·omega
  ·rintro ⟨g1,g2,g3⟩
   obtain ⟨a|a|a,b|b|b⟩:=hmix
   ·omega
   ·exact mixed a b (p1 (by omega)) (p2 (by omega)) ⟨g1,g2⟩
   ·exact mixed a b (p1 (by omega)) (p3 (by omega)) ⟨g1,g3⟩
   ·exact mixed a b (p2 (by omega)) (p1 (by omega)) ⟨g2,g1⟩
   ·omega
   ·exact mixed a b (p2 (by omega)) (p3 (by omega)) ⟨g2,g3⟩
   ·exact mixed a b (p3 (by omega)) (p1 (by omega)) ⟨g3,g1⟩
   ·exact mixed a b (p3 (by omega)) (p2 (by omega)) ⟨g3,g2⟩
   ·omega
 ·by_cases hz:S1=0∧S2=0∧S3=0
  ·obtain ⟨z1,z2,z3⟩:=hz
   have hA:=h0 z1 z2 z3
   have hT0:T=0:=by omega
   rw [hA,hT0]
   unfold hitS
   rw [if_neg fun h=>h.1 rfl,if_neg fun h=>h.1 (by omega)]
  ·have hT0:T≠0:=by omega
   have pm:∀ {S:Int},(0 < T→0≤S)→(T < 0→S≤0)→0≤S * T:=fun {S} h1 h2=>by
        rcases Int.lt_or_gt_of_ne hT0 with h|h
        ·exact Int.mul_nonneg_of_nonpos_of_nonpos (h2 h) (Int.le_of_lt h)
        ·exact Int.mul_nonneg (h1 h) (Int.le_of_lt h)
   have hx:=hx hT0 (pm (by omega) (by omega)) (pm (by omega) (by omega)) (pm (by omega) (by omega))
   have hTT:0 < T * T:=by
        rcases Int.lt_or_gt_of_ne hT0 with h|h
        ·exact Int.mul_pos_of_neg_of_neg h h
        ·exact Int.mul_pos h h
   have eq:(A - T) * T=A * T - T * T:=by grind
   rcases hx with hx|hx
   · -- the plane lies behind
    have hB:(A - T) * T < 0:=by omega
    have opp:∀ {X:Int},X * T < 0→∀ {S P:Int},S≠0→(0 < T→0≤S)→(T < 0→S≤0)→P.sign=S.sign→P.sign≠X.sign:=fun {X} hX {S P} hS h1 h2 h3 h4=>by
     rw [h3,sg_iff] at h4
     rcases Int.lt_or_gt_of_ne hT0 with h|h
     ·have:0 < X:=by
       rcases Int.lt_or_le 0 X with g|g
       ·exact g
       ·have:=Int.mul_nonneg_of_nonpos_of_nonpos g (Int.le_of_lt h);omega
      omega
     ·have:X < 0:=by
       rcases Int.lt_or_le X 0 with g|g
       ·exact g
       ·have:=Int.mul_nonneg g (Int.le_of_lt h);omega
      omega
    have hne:S1≠0∨S2≠0∨S3≠0:=by omega
    rw [hitS_ne,hitS_ne]
    ·rintro ⟨g1,g2,g3⟩
     rcases hne with h|h|h
     ·exact opp hB h (by omega) (by omega) (q1 h) g1
     ·exact opp hB h (by omega) (by omega) (q2 h) g2
     ·exact opp hB h (by omega) (by omega) (q3 h) g3
    ·rintro ⟨g1,g2,g3⟩
     rcases hne with h|h|h
     ·exact opp hx h (by omega) (by omega) (p1 h) g1
     ·exact opp hx h (by omega) (by omega) (p2 h) g2
     ·exact opp hx h (by omega) (by omega) (p3 h) g3
   ·have hAT:0 < A * T:=by omega
    have hs:A.sign=(A - T).sign∧0 < A * (A - T):=by
     have pos:∀ {X Y:Int},0 < X * Y→(0 < X∧0 < Y)∨(X < 0∧Y < 0):=fun {X Y} h=>by
      rcases Int.lt_trichotomy X 0 with g|g|g
      ·rcases Int.lt_or_le Y 0 with k|k
       ·exact .inr ⟨g,k⟩
       ·have:=Int.mul_nonpos_of_nonpos_of_nonneg (Int.le_of_lt g) k;omega
      ·subst g;simp at h
      ·rcases Int.lt_or_le 0 Y with k|k
       ·exact .inl ⟨g,k⟩
       ·have:=Int.mul_nonpos_of_nonneg_of_nonpos (Int.le_of_lt g) k;omega
     have r1:=pos hAT
     have r2:=pos hx
     refine ⟨by rw [sg_iff];omega,?_⟩
     rcases r1 with ⟨r,_⟩|⟨r,_⟩
     ·exact Int.mul_pos r (by omega)
     ·exact Int.mul_pos_of_neg_of_neg r (by omega)
    have k1:=key p1 q1 e1 hs.2
    have k2:=key p2 q2 e2 hs.2
    have k3:=key p3 q3 e3 hs.2
    have hA0:A≠0:=by rintro rfl;simp at hAT
    have hB0:A - T≠0:=by intro h;rw [h] at hx;simp at hx
    unfold hitS
    rw [k1,k2,k3,hs.1]
    simp only [ne_eq,hA0,hB0]
theorem face_seg {a b c w e:V3} {N:Nat} (hw:w≠V3.zero)
  (hN:(det3 e b c).natAbs < N∧(det3 e c a).natAbs < N∧(det3 e a b).natAbs < N)
  (hM:(det3 e (b.sub w) (c.sub w)).natAbs < N∧(det3 e (c.sub w) (a.sub w)).natAbs < N∧(det3 e (a.sub w) (b.sub w)).natAbs < N)
  (ho:∀ k m:Int,0≤k→k≤m→¬ HitI a b c w k m) :
  hit3 (nextTo w e N) a b c=hit3 (nextTo w e N) (a.sub w) (b.sub w) (c.sub w):=by
 have cy:∀ u v w:V3,det3 u v w=det3 v w u:=fun u v w=>by simp only [det3,V3.dot,V3.cross];grind
 have nx:∀ b c:V3,det3 (nextTo w e N) b c=(N:Int) * det3 w b c+det3 e b c:=fun b c=>det_next w e b c N
 unfold hit3
 rw [det_move,nx,nx,nx,nx,nx,nx,share_move,share_move,share_move]
 have r1:=edge_ratio a b c w e
 have r2:=edge_ratio b c a w e
 have r3:=edge_ratio c a b w e
 obtain ⟨c1,c2,c3⟩:=cramer' a b c w
 rw [show det3 b c a=det3 a b c from (cy a b c).symm,show det3 b w a=det3 a b w from (cy a b w).symm,show det3 b c w=det3 w b c from (cy w b c).symm] at r2
 rw [show det3 c a b=det3 a b c from cy c a b,show det3 c w b=det3 w b c from cy c w b,show det3 c a w=det3 a w c from cy c a w] at r3
 have y1:det3 w c a=det3 a w c:=by rw [cy a w c]
 have y2:det3 w a b=det3 a b w:=by rw [cy w a b]
 rw [y1] at r2 ⊢
 rw [y2] at r3 ⊢
 refine seg_core (E1:=det3 e b c) (E2:=det3 e c a) (E3:=det3 e a b) (F1:=det3 e (b.sub w) (c.sub w)) (F2:=det3 e (c.sub w) (a.sub w)) (F3:=det3 e (a.sub w) (b.sub w)) rfl
  (fun h=>next_sign h hN.1) (fun h=>next_sign h hN.2.1) (fun h=>next_sign h hN.2.2) (fun h=>next_sign h hM.1) (fun h=>next_sign h hM.2.1) (fun h=>next_sign h hM.2.2)
  (fun h=>⟨by rw [h];omega,by rw [h];omega,r1 h⟩) (fun h=>⟨by rw [h];omega,by rw [h];omega,?_⟩) (fun h=>⟨by rw [h];omega,by rw [h];omega,?_⟩) ?_ ?_
 ·have:=r2 h
  rw [this];congr 1;omega
 ·have:=r3 h
  rw [this];congr 1;omega
 ·intro z1 z2 z3
  rw [z1,z2,z3] at c1 c2 c3
  simp only [Int.zero_mul,Int.add_zero,Int.mul_eq_zero] at c1 c2 c3
  by_cases h:det3 a b c=0
  ·exact h
  ·exfalso
   apply hw
   obtain ⟨x,y,z⟩:=w
   simp only at c1 c2 c3
   rw [c1.resolve_left h,c2.resolve_left h,c3.resolve_left h];rfl
 ·generalize det3 a b c=A at *
  generalize det3 w b c=S1 at *
  generalize det3 a w c=S2 at *
  generalize det3 a b w=S3 at *
  clear r1 r2 r3 y1 y2 nx cy hN hM
  intro hT h1 h2 h3
  refine Classical.byContradiction fun hn=>?_
  generalize hTd:S1+S2+S3=T at hT h1 h2 h3 hn
  have e1:S1 * T+S2 * T+S3 * T=T * T:=by rw [← Int.add_mul,← Int.add_mul,hTd]
  have hTT:0 < T * T:=by
   rcases Int.lt_or_gt_of_ne hT with h|h
   ·exact Int.mul_pos_of_neg_of_neg h h
   ·exact Int.mul_pos h h
  have e2:(A - T) * T=A * T - T * T:=by grind
  refine ho (A * T) (T * T) (by omega) (by omega) ⟨hTT,S1 * T,S2 * T,S3 * T,h1,h2,h3,e1,?_⟩
  unfold cmb3 scal
  rw [V3.mk.injEq]
  refine ⟨?_,?_,?_⟩<;>grind
theorem relV_move (P:List V3) (p w:V3) (i:Int):relV P (p.plus w) i=(relV P p i).sub w:=by
 unfold relV
 refine V3.ext' ?_ ?_ ?_<;>simp only [V3.sub,V3.plus]<;>omega
theorem fine_clear {P F:List V3} {p d:V3} (h:∀ f∈F,ClearF P p d f):Fine P F p d:=fun f hf hD=>by
 obtain ⟨n1,n2,n3⟩:=cross_ne hD
 obtain ⟨h1,h2,h3⟩:=h f hf
 exact ⟨h1 n1,h2 n2,h3 n3⟩
theorem comb_eq (x y z:Int) (a b c:V3):((V3.smul x a).plus (V3.smul y b)).plus (V3.smul z c)=cmb3 x y z a b c:=rfl
def Miss (P:List V3) (p w f:V3):Prop:=∀ k m:Int,0≤k→k≤m→¬ HitI (relV P p f.x) (relV P p f.y) (relV P p f.z) w k m
theorem out_miss0 {P:List V3} {p w f:V3} (h:Miss P p w f):OutF P p f:=by
 intro _ x y z hx hy hz he
 rw [comb_eq] at he
 refine Classical.byContradiction fun hn=>?_
 refine h 0 (x+y+z) (by omega) (by omega) ⟨by omega,x,y,z,hx,hy,hz,rfl,?_⟩
 rw [he]
 simp [V3.zero,scal]
theorem out_miss1 {P:List V3} {p w f:V3} (h:Miss P p w f):OutF P (p.plus w) f:=by
 intro _ x y z hx hy hz he
 rw [comb_eq,relV_move,relV_move,relV_move] at he
 refine Classical.byContradiction fun hn=>?_
 refine h (x+y+z) (x+y+z) (by omega) (by omega) ⟨by omega,x,y,z,hx,hy,hz,rfl,?_⟩
 simp only [cmb3,V3.sub,V3.zero,V3.mk.injEq,scal] at he ⊢
 obtain ⟨h1,h2,h3⟩:=he
 refine ⟨?_,?_,?_⟩<;>grind
theorem seg_wind {P F:List V3} (hg:Good P F) {p w d d':V3} (hw:w≠V3.zero) (ho:∀ f∈F,Miss P p w f) (hd:Fine P F p d) (hd':Fine P F (p.plus w) d') :
  windM P F p d=windM P F (p.plus w) d':=by
 obtain ⟨T,hT⟩:=dir_all (norms P F p++norms P F (p.plus w))
 have hn:=hT (T+1) (by omega)
 obtain ⟨M,hM⟩:=next_all (dirT (T+1)) (norms P F p++norms P F (p.plus w))
 have hn0:∀ n∈norms P F p,n≠V3.zero→(dirT (T+1)).dot n≠0:=fun n h=>hn n (List.mem_append.2 (.inl h))
 have hn1:∀ n∈norms P F (p.plus w),n≠V3.zero→(dirT (T+1)).dot n≠0:=fun n h=>hn n (List.mem_append.2 (.inr h))
 have hN0:∀ n∈norms P F p,((dirT (T+1)).dot n).natAbs < M+1:=fun n h=>Nat.lt_succ_of_le (hM n (List.mem_append.2 (.inl h)))
 have hN1:∀ n∈norms P F (p.plus w),((dirT (T+1)).dot n).natAbs < M+1:=fun n h=>Nat.lt_succ_of_le (hM n (List.mem_append.2 (.inr h)))
 have f0:=fine_clear (clear_next (d:=w) hn0 hN0)
 have f1:=fine_clear (clear_next (d:=w) hn1 hN1)
 rw [wind_any hg (fun f hf=>out_miss0 (ho f hf)) hd f0,wind_any hg (fun f hf=>out_miss1 (ho f hf)) hd' f1]
 refine fold_congr F 0 fun f hf=>?_
 obtain ⟨m1,m2,m3⟩:=norms_mem (P:=P) (p:=p) hf
 obtain ⟨l1,l2,l3⟩:=norms_mem (P:=P) (p:=p.plus w) hf
 rw [relV_move,relV_move] at l1 l2 l3
 unfold hitF
 rw [relV_move,relV_move,relV_move]
 exact face_seg hw ⟨hN0 _ m2,hN0 _ m3,hN0 _ m1⟩ ⟨hN1 _ l2,hN1 _ l3,hN1 _ l1⟩ (ho f hf)
end Go.Sx
namespace Go.Sx
open Go
/-! what the least t of a face is -/
def HitR (a b c d:V3) (t:Rat):Prop:=∃ k m:Int,t=qI k m∧HitI a b c d k m
def Spn.has (s:Spn) (t:Rat):Prop:=s.low≤t∧(s.opn=true∨t≤s.high)
theorem has_low {s:Spn} (h:s.ne):s.has s.low:=⟨Rat.le_refl,h⟩
theorem has_ne {s:Spn} {t:Rat} (h:s.has t):s.ne:=by
 obtain ⟨h1,h2⟩:=h
 rcases h2 with h2|h2
 ·exact .inl h2
 ·exact .inr (Rat.le_trans h1 h2)
theorem intR_pos {v:Int}:(0:Rat) < (v:Rat)↔0 < v:=by
 have h:=Rat.intCast_lt_intCast (a:=0) (b:=v)
 exact h
theorem quot_le {u v:Int} {t:Rat} (hv:0 < v):qI (-u) v≤t↔0≤(u:Rat)+t * (v:Rat):=by
 have hv':=intR_pos.2 hv
 rw [qI_quot,Rat.intCast_neg]
 generalize (v:Rat)=w at *
 generalize (u:Rat)=x at *
 have e:-x / w * w=-x:=Rat.div_mul_cancel (by grind)
 generalize -x / w=q at *
 constructor
 ·intro h
  have:=Rat.mul_le_mul_of_nonneg_right h (Rat.le_of_lt hv')
  grind
 ·intro h
  have h1:q * w≤t * w:=by grind
  exact Rat.le_of_mul_le_mul_right h1 hv'
theorem le_quot {u v:Int} {t:Rat} (hv:v < 0):t≤qI (-u) v↔0≤(u:Rat)+t * (v:Rat):=by
 have hv':(0:Rat) < ((-v:Int):Rat):=intR_pos.2 (by omega)
 rw [qI_quot,Rat.intCast_neg]
 rw [Rat.intCast_neg] at hv'
 generalize (v:Rat)=w at *
 generalize (u:Rat)=x at *
 have e:-x / w * w=-x:=Rat.div_mul_cancel (by grind)
 generalize -x / w=q at *
 constructor
 ·intro h
  have:=Rat.mul_le_mul_of_nonneg_right h (Rat.le_of_lt hv')
  grind
 ·intro h
  have h1:t * -w≤q * -w:=by grind
  exact Rat.le_of_mul_le_mul_right h1 hv'
theorem cutV_has {s:Spn} {u v:Int} (hv:v≠0) (t:Rat):(cutV s u v).has t↔s.has t∧0≤(u:Rat)+t * (v:Rat):=by
 unfold cutV Spn.has
 rcases Int.lt_or_gt_of_ne hv with h|h
 ·rw [if_neg (fun k=>by omega),← le_quot h]
  split
  ·rename_i h1
   simp only
   constructor
   ·rintro ⟨a1,a2⟩
    rcases a2 with a2|a2
    ·cases a2
    refine ⟨⟨a1,?_⟩,a2⟩
    rcases h1.2 with h2|h2
    ·exact .inl h2
    ·exact .inr (Rat.le_trans a2 (Rat.le_of_lt h2))
   ·rintro ⟨⟨a1,_⟩,a2⟩
    exact ⟨a1,.inr a2⟩
  ·rename_i h1
   refine ⟨fun a=>⟨a,?_⟩,fun a=>a.1⟩
   have h2:¬ (s.opn=true∨qI (-u) v < s.high):=fun k=>h1 ⟨h,k⟩
   rcases a.2 with a2|a2
   ·exact absurd (.inl a2) h2
   ·exact Rat.le_trans a2 (Rat.not_lt.1 fun k=>h2 (.inr k))
 ·rw [← quot_le h]
  split
  ·rename_i h1
   simp only
   constructor
   ·rintro ⟨a1,a2⟩
    exact ⟨⟨Rat.le_trans (Rat.le_of_lt h1.2) a1,a2⟩,a1⟩
   ·rintro ⟨⟨_,a2⟩,a1⟩
    exact ⟨a1,a2⟩
  ·rename_i h1
   rw [if_neg (fun k=>by omega)]
   refine ⟨fun a=>⟨a,?_⟩,fun a=>a.1⟩
   exact Rat.le_trans (Rat.not_lt.1 fun k=>h1 ⟨h,k⟩) a.1
theorem cutS_some {s s':Spn} {u v:Int} (h:cutS s u v=some s') (t:Rat):s'.has t↔s.has t∧0≤(u:Rat)+t * (v:Rat):=by
 unfold cutS at h
 split at h
 ·rename_i hv
  split at h
  ·rename_i hu
   rw [← Option.some.inj h,hv]
   have:(0:Rat)≤(u:Rat)+t * ((0:Int):Rat):=by
        rw [show ((0:Int):Rat)=0 from rfl,Rat.mul_zero,Rat.add_zero]
        exact Rat.intCast_le_intCast.2 hu
   exact ⟨fun a=>⟨a,this⟩,fun a=>a.1⟩
  ·cases h
 ·rename_i hv
  split at h
  ·rw [← Option.some.inj h];exact cutV_has hv t
  ·cases h
theorem cutS_none {s:Spn} {u v:Int} (h:cutS s u v=none) (t:Rat):¬ (s.has t∧0≤(u:Rat)+t * (v:Rat)):=by
 unfold cutS at h
 split at h
 ·rename_i hv
  split at h
  ·cases h
  ·rename_i hu
   rintro ⟨_,h2⟩
   rw [hv,show ((0:Int):Rat)=0 from rfl,Rat.mul_zero,Rat.add_zero] at h2
   exact hu (Rat.intCast_le_intCast.1 h2)
 ·rename_i hv
  split at h
  ·cases h
  ·rename_i hn
   intro h2
   exact hn (has_ne ((cutV_has hv t).2 h2))
def Half (k:Nat) (n a b d:V3) (t:Rat):Prop:=0≤(hfU k n a b:Rat)+t * (hfV k n a b d:Rat)
theorem cut3S_some {s s':Spn} (hs:s.ne) {k:Nat} {n a b c d:V3} (h:cut3S s k n a b c d=some s'):s'.ne∧∀ t,s'.has t↔s.has t∧Half k n a b d t∧Half k n b c d t∧Half k n c a d t:=by
 unfold cut3S at h
 rw [Option.bind_eq_some_iff] at h
 obtain ⟨s2,h2,h3⟩:=h
 rw [Option.bind_eq_some_iff] at h2
 obtain ⟨s1,h1,h2⟩:=h2
 have n1:=cutS_ne hs h1
 have n2:=cutS_ne n1 h2
 refine ⟨cutS_ne n2 h3,fun t=>?_⟩
 rw [cutS_some h3,cutS_some h2,cutS_some h1]
 unfold Half
 simp only [and_assoc]
theorem cut3S_none {s:Spn} {k:Nat} {n a b c d:V3} (h:cut3S s k n a b c d=none) (t:Rat):¬ (s.has t∧Half k n a b d t∧Half k n b c d t∧Half k n c a d t):=by
 rintro ⟨g0,g1,g2,g3⟩
 unfold cut3S at h
 cases h1:cutS s (hfU k n a b) (hfV k n a b d) with
 | none=>exact cutS_none h1 t ⟨g0,g1⟩
 | some s1 =>
  rw [h1,Option.bind_some] at h
  have k1:=(cutS_some h1 t).2 ⟨g0,g1⟩
  cases h2:cutS s1 (hfU k n b c) (hfV k n b c d) with
  | none=>exact cutS_none h2 t ⟨k1,g2⟩
  | some s2 =>
   rw [h2,Option.bind_some] at h
   have k2:=(cutS_some h2 t).2 ⟨k1,g2⟩
   exact cutS_none h t ⟨k2,g3⟩
theorem half_int {u v k m:Int} (hm:0 < m):0≤(u:Rat)+qI k m * (v:Rat)↔0≤u * m+k * v:=by
 have hm':=intR_pos.2 hm
 rw [qI_quot]
 have e:((u * m+k * v:Int):Rat)=((u:Rat)+(k:Rat) / (m:Rat) * (v:Rat)) * (m:Rat):=by
  rw [Rat.intCast_add,Rat.intCast_mul,Rat.intCast_mul]
  have:(k:Rat) / (m:Rat) * (m:Rat)=k:=Rat.div_mul_cancel (by grind)
  grind
 rw [← Rat.intCast_le_intCast (a:=0),e]
 generalize (u:Rat)+(k:Rat) / (m:Rat) * (v:Rat)=x
 generalize (m:Rat)=y at *
 constructor
 ·intro h;exact Rat.mul_nonneg h (Rat.le_of_lt hm')
 ·intro h
  refine Rat.le_of_mul_le_mul_right (c:=y) ?_ hm'
  rw [Rat.zero_mul];exact h
theorem proj_add (k:Nat) (a b:V3) (x y:Int):(⟨x * a.x+y * b.x,x * a.y+y * b.y,x * a.z+y * b.z⟩:V3).proj k=x * a.proj k+y * b.proj k:=by
 unfold V3.proj;split
 ·rfl
 ·split<;>rfl
theorem proj_scal (k:Nat) (a:V3) (x:Int):(scal x a).proj k=x * a.proj k:=by
 unfold V3.proj scal;split
 ·rfl
 ·split<;>rfl
theorem weight_half {a b c d:V3} {x y z k m:Int} (hm:x+y+z=m) (h:cmb3 x y z a b c=scal k d) (κ:Nat):(a.cross b).proj κ * m+k * ((b.sub a).cross d).proj κ=z * (nrm a b c).proj κ:=by
 have e:(⟨m * (a.cross b).x+k * ((b.sub a).cross d).x,m * (a.cross b).y+k * ((b.sub a).cross d).y,m * (a.cross b).z+k * ((b.sub a).cross d).z⟩:V3)=scal z (nrm a b c):=by
  simp only [cmb3,scal,V3.mk.injEq] at h
  obtain ⟨h1,h2,h3⟩:=h
  simp only [scal,nrm,V3.cross,V3.sub,V3.mk.injEq]
  subst hm
  refine ⟨?_,?_,?_⟩<;>grind
 have e2:=congrArg (V3.proj κ) e
 rw [proj_add,proj_scal] at e2
 rw [Int.mul_comm _ m];exact e2
theorem weight_cyc {a b c d:V3} {x y z k m:Int} (hm:x+y+z=m) (h:cmb3 x y z a b c=scal k d) (κ:Nat) :
  (a.cross b).proj κ * m+k * ((b.sub a).cross d).proj κ=z * (nrm a b c).proj κ∧(b.cross c).proj κ * m+k * ((c.sub b).cross d).proj κ=x * (nrm a b c).proj κ∧(c.cross a).proj κ * m+k * ((a.sub c).cross d).proj κ=y * (nrm a b c).proj κ:=by
 have n1:nrm b c a=nrm a b c:=by
  simp only [nrm,V3.cross,V3.sub,V3.mk.injEq];refine ⟨?_,?_,?_⟩<;>grind
 have n2:nrm c a b=nrm a b c:=by
  simp only [nrm,V3.cross,V3.sub,V3.mk.injEq];refine ⟨?_,?_,?_⟩<;>grind
 have c1:cmb3 y z x b c a=scal k d:=by
  rw [← h];simp only [cmb3,V3.mk.injEq];refine ⟨?_,?_,?_⟩<;>omega
 have c2:cmb3 z x y c a b=scal k d:=by
  rw [← h];simp only [cmb3,V3.mk.injEq];refine ⟨?_,?_,?_⟩<;>omega
 refine ⟨weight_half hm h κ,?_,?_⟩
 ·have:=weight_half (m:=m) (by omega) c1 κ;rw [n1] at this;exact this
 ·have:=weight_half (m:=m) (by omega) c2 κ;rw [n2] at this;exact this
theorem half_weight {a b c d:V3} (h0:det3 a b c=0) (hd:(nrm a b c).dot d=0) {k m:Int} (κ:Nat) :
  cmb3 ((b.cross c).proj κ * m+k * ((c.sub b).cross d).proj κ) ((c.cross a).proj κ * m+k * ((a.sub c).cross d).proj κ) ((a.cross b).proj κ * m+k * ((b.sub a).cross d).proj κ) a b c=scal (k * (nrm a b c).proj κ) d ∧
  ((b.cross c).proj κ * m+k * ((c.sub b).cross d).proj κ)+((c.cross a).proj κ * m+k * ((a.sub c).cross d).proj κ)+((a.cross b).proj κ * m+k * ((b.sub a).cross d).proj κ)=m * (nrm a b c).proj κ:=by
 obtain ⟨a1,a2,a3⟩:=a
 obtain ⟨b1,b2,b3⟩:=b
 obtain ⟨c1,c2,c3⟩:=c
 obtain ⟨d1,d2,d3⟩:=d
 simp only [det3,nrm,V3.dot,V3.cross,V3.sub] at h0 hd
 simp only [cmb3,scal,nrm,V3.cross,V3.sub,V3.proj,V3.mk.injEq]
 split
 ·refine ⟨⟨?_,?_,?_⟩,?_⟩<;>grind
 ·split
  ·refine ⟨⟨?_,?_,?_⟩,?_⟩<;>grind
  ·refine ⟨⟨?_,?_,?_⟩,?_⟩<;>grind
theorem self_nonneg (x:Int):0≤x * x:=by
 rcases Int.le_total 0 x with h|h
 ·exact Int.mul_nonneg h h
 ·exact Int.mul_nonneg_of_nonpos_of_nonpos h h
theorem comb_det {x y z:Int} {a b c v:V3} (h:cmb3 x y z a b c=v):det3 v b c=x * det3 a b c∧det3 a v c=y * det3 a b c∧det3 a b v=z * det3 a b c:=by
 subst h
 simp only [cmb3,det3,V3.dot,V3.cross]
 refine ⟨?_,?_,?_⟩<;>grind
theorem det_scal (k:Int) (a b c d:V3):det3 (scal k d) b c=k * det3 d b c∧det3 a (scal k d) c=k * det3 a d c∧det3 a b (scal k d)=k * det3 a b d:=by
 simp only [scal,det3,V3.dot,V3.cross]
 refine ⟨?_,?_,?_⟩<;>grind
theorem comb_nrm {x y z k m:Int} {a b c d:V3} (hm:x+y+z=m) (h:cmb3 x y z a b c=scal k d):m * det3 a b c=k * (nrm a b c).dot d:=by
 simp only [cmb3,scal,V3.mk.injEq] at h
 obtain ⟨h1,h2,h3⟩:=h
 subst hm
 simp only [nrm,det3,V3.dot,V3.cross,V3.sub]
 grind
theorem qI_ge_zero {k m:Int} (hm:0 < m):0≤qI k m↔0≤k:=by
 rw [qI_nonneg (by omega)]
 constructor
 ·intro h
  rcases Int.lt_or_le k 0 with g|g
  ·have:=Int.mul_neg_of_neg_of_pos g hm;omega
  ·exact g
 ·intro h;exact Int.mul_nonneg h (Int.le_of_lt hm)
theorem half_pos {k:Nat} {n:V3} (hk:n.proj k≠0) {y:Int}:0≤y * n.proj k * (n.proj k).sign↔0≤y:=by
 obtain ⟨s1,_,_⟩:=sign_mulI (n.proj k)
 have pk:=natI_pos hk
 have e:y * n.proj k * (n.proj k).sign=natI (n.proj k) * y:=by rw [← s1];grind
 rw [e]
 have:=(scale_sign (α:=natI (n.proj k)) (β:=1) (u:=y) (u':=natI (n.proj k) * y) pk (by decide) (by omega)).2
 omega
theorem half_iff {κ:Nat} {n a b d:V3} {k m:Int} (hm:0 < m):Half κ n a b d (qI k m)↔0≤((a.cross b).proj κ * m+k * ((b.sub a).cross d).proj κ) * (n.proj κ).sign:=by
 unfold Half
 rw [half_int hm]
 unfold hfU hfV
 have e:(n.proj κ).sign * (a.cross b).proj κ * m+k * ((n.proj κ).sign * ((b.sub a).cross d).proj κ)=((a.cross b).proj κ * m+k * ((b.sub a).cross d).proj κ) * (n.proj κ).sign:=by grind
 rw [e]
theorem hit_plane {a b c d:V3} (h0:det3 a b c=0) (hd:(nrm a b c).dot d=0) {κ:Nat} (hk:(nrm a b c).proj κ≠0) (t:Rat) :
  HitR a b c d t↔Half κ (nrm a b c) a b d t∧Half κ (nrm a b c) b c d t∧Half κ (nrm a b c) c a d t:=by
 constructor
 ·rintro ⟨k,m,rfl,hm,x,y,z,hx,hy,hz,hs,he⟩
  obtain ⟨w1,w2,w3⟩:=weight_cyc hs he κ
  rw [half_iff hm,half_iff hm,half_iff hm,w1,w2,w3,half_pos hk,half_pos hk,half_pos hk]
  exact ⟨hz,hx,hy⟩
 ·have ht:t=qI t.num t.den:=by
   unfold qI
   rw [if_neg (by omega),Int.natAbs_natCast,Rat.mkRat_self]
  have hm:(0:Int) < (t.den:Int):=by have:=t.den_pos;omega
  generalize t.num=k at ht
  generalize (t.den:Int)=m at ht hm
  subst ht
  rw [half_iff hm,half_iff hm,half_iff hm]
  rintro ⟨w1,w2,w3⟩
  obtain ⟨e1,e2⟩:=half_weight (k:=k) (m:=m) h0 hd κ
  obtain ⟨s1,_,_⟩:=sign_mulI ((nrm a b c).proj κ)
  have pk:=natI_pos hk
  refine ⟨k * natI ((nrm a b c).proj κ),m * natI ((nrm a b c).proj κ),?_,Int.mul_pos hm pk,_,_,_,w2,w3,w1,?_,?_⟩
  ·rw [qI_eq (by omega) (Int.ne_of_gt (Int.mul_pos hm pk))];grind
  ·rw [← Int.add_mul,← Int.add_mul,e2,← s1];grind
  ·rw [← s1]
   generalize ((nrm a b c).proj κ).sign=σ at *
   generalize (nrm a b c).proj κ=N at *
   generalize (b.cross c).proj κ * m+k * ((c.sub b).cross d).proj κ=X at *
   generalize (c.cross a).proj κ * m+k * ((a.sub c).cross d).proj κ=Y at *
   generalize (a.cross b).proj κ * m+k * ((b.sub a).cross d).proj κ=Z at *
   simp only [cmb3,scal,V3.mk.injEq] at e1 ⊢
   obtain ⟨f1,f2,f3⟩:=e1
   clear s1 pk w1 w2 w3 e2 hk hm h0 hd
   refine ⟨?_,?_,?_⟩<;>grind
theorem holds_hit {a b c d:V3} {κ:Nat} (hk:(nrm a b c).proj κ≠0):holdsM κ a b c=true↔HitR a b c d 0:=by
 unfold holdsM
 rw [decide_eq_true_eq]
 have z:∀ v:V3,(scal 0 v)=V3.zero:=fun v=>by simp [scal,V3.zero]
 have e0:HitR a b c d 0↔HitR a b c V3.zero 0:=by
  constructor
  ·rintro ⟨k,m,hq,hm,x,y,z',hx,hy,hz,hs,he⟩
   have:k=0:=by
        have h:=(qI_eq (a:=0) (b:=1) (c:=k) (d:=m) (by decide) (by omega)).1 (by rw [qI_zero];exact hq)
        omega
   subst this
   exact ⟨0,m,hq,hm,x,y,z',hx,hy,hz,hs,by rw [he,z,z]⟩
  ·rintro ⟨k,m,hq,hm,x,y,z',hx,hy,hz,hs,he⟩
   have:k=0:=by
        have h:=(qI_eq (a:=0) (b:=1) (c:=k) (d:=m) (by decide) (by omega)).1 (by rw [qI_zero];exact hq)
        omega
   subst this
   exact ⟨0,m,hq,hm,x,y,z',hx,hy,hz,hs,by rw [he,z,z]⟩
 rw [e0]
 have hd:(nrm a b c).dot V3.zero=0:=by simp [V3.dot,V3.zero]
 have hV:∀ a b:V3,hfV κ (nrm a b c) a b V3.zero=0:=fun a b=>by
  unfold hfV
  have:((b.sub a).cross V3.zero)=V3.zero:=by simp [V3.cross,V3.zero]
  rw [this]
  unfold V3.proj V3.zero;simp
 have hH:∀ n a b:V3,Half κ n a b V3.zero 0↔0≤hfU κ n a b:=fun n a b=>by
  unfold Half
  rw [Rat.zero_mul,Rat.add_zero]
  exact Rat.intCast_le_intCast
 by_cases h0:det3 a b c=0
 ·rw [hit_plane h0 hd hk,hH,hH,hH]
  exact ⟨fun h=>h.2,fun h=>⟨h0,h⟩⟩
 ·refine ⟨fun h=>absurd h.1 h0,?_⟩
  rintro ⟨k,m,hq,hm,x,y,z',hx,hy,hz,hs,he⟩
  have:=comb_nrm hs he
  rw [hd,Int.mul_zero] at this
  exact absurd ((Int.mul_eq_zero.1 this).resolve_left (by omega)) h0
theorem met_spec (beyond:Bool) {a b c d:V3} (hn:nrm a b c≠V3.zero) (hd:d≠V3.zero) :
  (∀ t,metP beyond a b c d=some t→HitR a b c d t∧(path0 beyond).has t)∧(∀ t,HitR a b c d t→(path0 beyond).has t→∃ s,metP beyond a b c d=some s∧s≤t):=by
 have hp:=axP_ne hn
 unfold metP
 by_cases h0:det3 a b c=0
 ·rw [if_neg (fun h=>h h0)]
  by_cases hnd:(nrm a b c).dot d=0
  ·rw [if_neg (fun h=>h hnd)]
   cases hc:cut3S (path0 beyond) (axP (nrm a b c)) (nrm a b c) a b c d with
   | none =>
        refine ⟨fun t h=>(by cases h),fun t ht hh=>?_⟩
        exact absurd ⟨hh,(hit_plane h0 hnd hp t).1 ht⟩ (cut3S_none hc t)
   | some s =>
        obtain ⟨n1,n2⟩:=cut3S_some (path_ne beyond) hc
        refine ⟨fun t h=>?_,fun t ht hh=>?_⟩
        ·have e:s.low=t:=Option.some.inj h
         have:=(n2 s.low).1 (has_low n1)
         rw [e] at this
         exact ⟨(hit_plane h0 hnd hp t).2 this.2,this.1⟩
        ·exact ⟨s.low,rfl,((n2 t).2 ⟨hh,(hit_plane h0 hnd hp t).1 ht⟩).1⟩
  ·rw [if_pos hnd]
   have hh:=holds_hit (d:=d) hp
   constructor
   ·intro t h
    split at h
    ·rename_i h1
     rw [← Option.some.inj h]
     exact ⟨hh.1 h1,Rat.le_refl,.inr (show (0:Rat)≤1 by decide)⟩
    ·cases h
   ·rintro t ht ⟨g1,_⟩
    have h1:holdsM (axP (nrm a b c)) a b c=true:=by
     obtain ⟨k,m,hq,hm,x,y,z,hx,hy,hz,hs,he⟩:=ht
     have:=comb_nrm hs he
     rw [h0,Int.mul_zero] at this
     have hk:k=0:=(Int.mul_eq_zero.1 this.symm).resolve_right hnd
     subst hk
     exact hh.2 ⟨0,m,(qI_zero m).symm,hm,x,y,z,hx,hy,hz,hs,he⟩
    rw [if_pos h1]
    exact ⟨0,rfl,g1⟩
 ·rw [if_pos h0]
  simp only [sgn_prod]
  have hs:=share_sum a b c d
  obtain ⟨c1,c2,c3⟩:=cramer' a b c d
  constructor
  ·intro t h
   split at h
   ·cases h
   ·rename_i hm
    split at h
    ·rename_i hb
     rw [← Option.some.inj h]
     have p1:0≤det3 d b c * det3 a b c:=by omega
     have p2:0≤det3 a d c * det3 a b c:=by omega
     have p3:0≤det3 a b d * det3 a b c:=by omega
     have hT:det3 d b c+det3 a d c+det3 a b d≠0:=by
         intro hT
         have e:det3 d b c * det3 a b c+det3 a d c * det3 a b c+det3 a b d * det3 a b c=0:=by rw [← Int.add_mul,← Int.add_mul,hT,Int.zero_mul]
         have z1:det3 d b c=0:=(Int.mul_eq_zero.1 (show det3 d b c * det3 a b c=0 by omega)).resolve_right h0
         have z2:det3 a d c=0:=(Int.mul_eq_zero.1 (show det3 a d c * det3 a b c=0 by omega)).resolve_right h0
         have z3:det3 a b d=0:=(Int.mul_eq_zero.1 (show det3 a b d * det3 a b c=0 by omega)).resolve_right h0
         rw [z1,z2,z3] at c1 c2 c3
         simp only [Int.zero_mul,Int.add_zero,Int.mul_eq_zero] at c1 c2 c3
         apply hd
         obtain ⟨x,y,w⟩:=d
         simp only at c1 c2 c3
         rw [c1.resolve_left h0,c2.resolve_left h0,c3.resolve_left h0];rfl
     generalize det3 d b c=x at *
     generalize det3 a d c=y at *
     generalize det3 a b d=z at *
     generalize hdp:det3 a b c=dp at *
     generalize hTd:x+y+z=T at *
     have e:x * dp+y * dp+z * dp=T * dp:=by rw [← Int.add_mul,← Int.add_mul,hTd]
     have hpos:0 < T * dp:=by
         have:T * dp≠0:=fun k=>by rcases Int.mul_eq_zero.1 k with k|k;exact hT k;exact h0 k
         omega
     have hpos':0 < dp * T:=by rw [Int.mul_comm];exact hpos
     refine ⟨⟨dp * dp,T * dp,?_,hpos,x * dp,y * dp,z * dp,p1,p2,p3,e,?_⟩,?_⟩
     ·rw [qI_eq hT (by omega)];grind
     ·simp only [cmb3,scal,V3.mk.injEq]
      refine ⟨?_,?_,?_⟩<;>grind
     ·refine ⟨?_,hb⟩
      rw [show (path0 beyond).low=0 from rfl,qI_nonneg hT]
      omega
    ·cases h
  ·rintro t ⟨k,m,rfl,hm,x,y,z,hx,hy,hz,hsum,he⟩ ⟨g1,g2⟩
   have q1:=comb_nrm hsum he
   obtain ⟨d1,d2,d3⟩:=comb_det he
   obtain ⟨s1,s2,s3⟩:=det_scal k a b c d
   rw [s1] at d1;rw [s2] at d2;rw [s3] at d3
   have hk:0≤k:=(qI_ge_zero hm).1 g1
   rw [hs]
   generalize det3 d b c=X at *
   generalize det3 a d c=Y at *
   generalize det3 a b d=Z at *
   generalize det3 a b c=dp at *
   generalize (nrm a b c).dot d=T at *
   have hk0:k≠0:=by
        rintro rfl
        rw [Int.zero_mul] at q1
        exact h0 ((Int.mul_eq_zero.1 q1).resolve_left (by omega))
   have hT:T≠0:=by
        rintro rfl
        rw [Int.mul_zero] at q1
        exact h0 ((Int.mul_eq_zero.1 q1).resolve_left (by omega))
   have sg:∀ {X x:Int},k * X=x * dp→0≤x→¬ X * dp < 0:=fun {X x} h1 h2 h3=>by
        have h4:k * (X * dp)=x * (dp * dp):=by rw [← Int.mul_assoc,h1,Int.mul_assoc]
        have h5:0≤x * (dp * dp):=Int.mul_nonneg h2 (self_nonneg dp)
        have h6:k * (X * dp) < 0:=Int.mul_neg_of_pos_of_neg (by omega) h3
        omega
   have hq:qI dp T=qI k m:=by rw [qI_eq hT (by omega),Int.mul_comm dp];exact q1
   rw [if_neg (by
        rintro (h|h|h)
        ·exact sg d1 hx h
        ·exact sg d2 hy h
        ·exact sg d3 hz h),hq,if_pos (show beyond=true∨qI k m≤1 from g2)]
   exact ⟨_,rfl,Rat.le_refl⟩
end Go.Sx
namespace Go.Sx
open Go
def onT (ax:V3→Nat) (a b c:V3):Bool:=holdsM (ax (nrm a b c)) a b c
def onM (ax:V3→Nat) (P F:List V3) (p:V3):Bool:=F.any fun f=>onT ax (relV P p f.x) (relV P p f.y) (relV P p f.z)
theorem nrm_rel (P:List V3) (p f:V3):nrm (relV P p f.x) (relV P p f.y) (relV P p f.z)=normal P f:=by
 unfold nrm normal relV
 rw [V3.eq_iff]
 simp only [V3.cross,V3.sub]
 refine ⟨?_,?_,?_⟩<;>grind
theorem Good.nz {P F:List V3} (hg:Good P F) {f:V3} (hf:f∈F):normal P f≠V3.zero:=by
 have h:=hg.flat
 unfold flatF at h
 rw [List.findIdx?_eq_none_iff] at h
 have:=h f hf
 unfold isFlat at this
 exact of_decide_eq_false this
theorem Good.nzR {P F:List V3} (hg:Good P F) (p:V3) {f:V3} (hf:f∈F):nrm (relV P p f.x) (relV P p f.y) (relV P p f.z)≠V3.zero:=by
 rw [nrm_rel];exact hg.nz hf
def OnI (P:List V3) (p f:V3):Prop:=∃ x y z:Int,0≤x∧0≤y∧0≤z∧0 < x+y+z∧cmb3 x y z (relV P p f.x) (relV P p f.y) (relV P p f.z)=V3.zero
theorem hit_zero {a b c d:V3}:HitR a b c d 0↔∃ x y z:Int,0≤x∧0≤y∧0≤z∧0 < x+y+z∧cmb3 x y z a b c=V3.zero:=by
 have z0:∀ v:V3,(scal 0 v)=V3.zero:=fun v=>by simp [scal,V3.zero]
 constructor
 ·rintro ⟨k,m,hq,hm,x,y,z,hx,hy,hz,hs,he⟩
  have:k=0:=by
   have h:=(qI_eq (a:=0) (b:=1) (c:=k) (d:=m) (by decide) (by omega)).1 (by rw [qI_zero];exact hq)
   omega
  subst this
  exact ⟨x,y,z,hx,hy,hz,by omega,by rw [he,z0]⟩
 ·rintro ⟨x,y,z,hx,hy,hz,hs,he⟩
  exact ⟨0,x+y+z,(qI_zero _).symm,hs,x,y,z,hx,hy,hz,rfl,by rw [he,z0]⟩
theorem on_iff {P F:List V3} (hg:Good P F) {p f:V3} (hf:f∈F):onT axP (relV P p f.x) (relV P p f.y) (relV P p f.z)=true↔OnI P p f:=by
 unfold onT OnI
 rw [holds_hit (d:=V3.zero) (axP_ne (hg.nzR p hf)),hit_zero]
theorem onM_iff {P F:List V3} (hg:Good P F) {p:V3}:onM axP P F p=true↔∃ f∈F,OnI P p f:=by
 unfold onM
 rw [List.any_eq_true]
 exact ⟨fun ⟨f,hf,h⟩=>⟨f,hf,(on_iff hg hf).1 h⟩,fun ⟨f,hf,h⟩=>⟨f,hf,(on_iff hg hf).2 h⟩⟩
theorem out_on {P F:List V3} (hg:Good P F) {p:V3} (h:onM axP P F p=false):∀ f∈F,OutF P p f:=by
 intro f hf _ x y z hx hy hz he
 rw [comb_eq] at he
 refine Classical.byContradiction fun hn=>?_
 have:onM axP P F p=true:=(onM_iff hg).2 ⟨f,hf,x,y,z,hx,hy,hz,by omega,he⟩
 rw [h] at this;cases this
/-! the winding number -/
def fineT (d a b c:V3):Bool:=decide (det3 a b c=0)||(decide (det3 d b c≠0)&&decide (det3 a d c≠0)&&decide (det3 a b d≠0))
def fineB (P F:List V3) (p d:V3):Bool:=F.all fun f=>fineT d (relV P p f.x) (relV P p f.y) (relV P p f.z)
theorem fineB_iff {P F:List V3} {p d:V3}:fineB P F p d=true↔Fine P F p d:=by
 unfold fineB Fine fineT
 rw [List.all_eq_true]
 constructor
 ·intro h f hf hD
  have:=h f hf
  simp only [decide_eq_false hD,Bool.false_or,Bool.and_eq_true,decide_eq_true_eq] at this
  exact ⟨by rw [cyc3'];exact this.2,this.1.1,by rw [cyc3];exact this.1.2⟩
 ·intro h f hf
  by_cases hD:det3 (relV P p f.x) (relV P p f.y) (relV P p f.z)=0
  ·simp [hD]
  ·obtain ⟨h1,h2,h3⟩:=h f hf hD
   rw [cyc3'] at h1
   rw [cyc3] at h3
   simp only [decide_eq_true h1,decide_eq_true h2,decide_eq_true h3,Bool.and_self,Bool.or_true]
def goodT (P F:List V3) (p:V3):Option Nat:=(List.range' 1 1801).find? fun t=>fineB P F p (dirT t)
def windN (P F:List V3) (p:V3):Int:=match goodT P F p with
 | some t=>windM P F p (dirT t)
 | none=>0
theorem goodT_some {P F:List V3} (hg:Good P F) (p:V3):∃ t,goodT P F p=some t∧1≤t∧t≤1801∧Fine P F p (dirT t):=by
 obtain ⟨t,h1,h2,h3⟩:=dir_exists hg p
 cases h:goodT P F p with
 | none =>
  unfold goodT at h
  rw [List.find?_eq_none] at h
  exact absurd (fineB_iff.2 h3) (h t (by rw [List.mem_range'_1];omega))
 | some s =>
  unfold goodT at h
  have h4:=List.find?_some h
  have h5:=List.mem_of_find?_eq_some h
  rw [List.mem_range'_1] at h5
  exact ⟨s,rfl,by omega,by omega,fineB_iff.1 h4⟩
theorem windN_eq {P F:List V3} (hg:Good P F) {p d:V3} (h:onM axP P F p=false) (hd:Fine P F p d):windN P F p=windM P F p d:=by
 obtain ⟨t,h1,_,_,h2⟩:=goodT_some hg p
 unfold windN
 rw [h1]
 exact wind_any hg (out_on hg h) h2 hd
def wndW (P F:List V3) (p:V3):Int × Int :=
 if (flawM P F).1≠0 then (0,350) else if isFar p then (0,2) else if onM axP P F p then (0,8) else (windN P F p,0)
def sideW (P F:List V3) (p:V3):Int × Int :=
 if (flawM P F).1≠0 then (0,350) else if isFar p then (0,2) else if onM axP P F p then (1,0) else if windN P F p≠0 then (2,0) else (0,0)
/-! the first meeting -/
def bestS (b:Option (Rat × Nat)) (i:Nat) (o:Option Rat):Option (Rat × Nat):=match o with
 | none=>b
 | some t=>match b with
    | none=>some (t,i)
    | some (u,j)=>if t < u then some (t,i) else some (u,j)
def firstK (g:V3→Option Rat) (F:List V3):Nat→Option (Rat × Nat)
 | 0=>none
 | k+1=>bestS (firstK g F k) k ((F[k]?).bind g)
theorem firstK_spec {g:V3→Option Rat} {F:List V3}:∀ {k:Nat},k≤F.length →
  (firstK g F k=none→∀ i < k,∀ f,F[i]?=some f→g f=none)∧(∀ t j,firstK g F k=some (t,j)→j < k∧(∃ f,F[j]?=some f∧g f=some t)∧∀ i < k,∀ f,F[i]?=some f→∀ s,g f=some s→t≤s)
 | 0,_=>⟨fun _ i hi=>by omega,fun t j h=>by cases h⟩
 | k + 1,hk=>by
  obtain ⟨h1,h2⟩:=firstK_spec (g:=g) (F:=F) (k:=k) (by omega)
  obtain ⟨f,hf⟩:∃ f,F[k]?=some f:=⟨_,List.getElem?_eq_getElem (by omega)⟩
  unfold firstK
  rw [hf,Option.bind_some]
  have up:∀ {q:V3→Prop},(∀ i < k,∀ f,F[i]?=some f→q f)→q f→∀ i < k+1,∀ f,F[i]?=some f→q f:=fun {q} a b i hi f' hf'=>by
     by_cases e:i=k
     ·subst e
      rw [hf] at hf'
      rw [← Option.some.inj hf'];exact b
     ·exact a i (by omega) f' hf'
  cases hg:g f with
  | none =>
     show (firstK g F k=none→_)∧(∀ t j,firstK g F k=some (t,j)→_)
     refine ⟨fun h=>up (h1 h) hg,fun t j h=>?_⟩
     obtain ⟨a1,a2,a3⟩:=h2 t j h
     exact ⟨by omega,a2,up (q:=fun f=>∀ s,g f=some s→t≤s) a3 (fun s hs=>by rw [hg] at hs;cases hs)⟩
  | some r =>
     cases hb:firstK g F k with
     | none =>
       show (some (r,k)=none→_)∧(∀ t j,some (r,k)=some (t,j)→_)
       refine ⟨fun h=>(by cases h),fun t j h=>?_⟩
       cases h
       refine ⟨by omega,⟨f,hf,hg⟩,up (q:=fun f=>∀ s,g f=some s→r≤s) (fun i hi f' hf' s hs=>?_) (fun s hs=>?_)⟩
       ·rw [h1 hb i hi f' hf'] at hs;cases hs
       ·rw [hg] at hs;rw [Option.some.inj hs];exact Rat.le_refl
     | some b =>
       obtain ⟨u,j0⟩:=b
       obtain ⟨a1,a2,a3⟩:=h2 u j0 hb
       show ((if r < u then some (r,k) else some (u,j0))=none→_)∧(∀ t j,(if r < u then some (r,k) else some (u,j0))=some (t,j)→_)
       by_cases hr:r < u
       ·rw [if_pos hr]
        refine ⟨fun h=>(by cases h),fun t j h=>?_⟩
        cases h
        refine ⟨by omega,⟨f,hf,hg⟩,up (q:=fun f=>∀ s,g f=some s→r≤s) (fun i hi f' hf' s hs=>?_) (fun s hs=>?_)⟩
        ·exact Rat.le_trans (Rat.le_of_lt hr) (a3 i hi f' hf' s hs)
        ·rw [hg] at hs;rw [Option.some.inj hs];exact Rat.le_refl
       ·rw [if_neg hr]
        refine ⟨fun h=>(by cases h),fun t j h=>?_⟩
        cases h
        refine ⟨by omega,a2,up (q:=fun f=>∀ s,g f=some s→u≤s) a3 (fun s hs=>?_)⟩
        rw [hg] at hs;rw [← Option.some.inj hs];exact Rat.not_lt.1 hr
def rayM (met:Bool→V3→V3→V3→V3→Option Rat) (P F:List V3) (p q:V3) (beyond:Bool):Option (Rat × Nat) :=
 firstK (fun f=>met beyond (relV P p f.x) (relV P p f.y) (relV P p f.z) (q.sub p)) F F.length
def rayW (P F:List V3) (p q:V3) (beyond:Bool):Int ⊕ (Rat × Nat) :=
 if (flawM P F).1≠0 then .inl 350 else if isFar p∨isFar q∨p=q then .inl 2 else match rayM metP P F p q beyond with
    | none=>.inl 4
    | some r=>.inr r
end Go.Sx
