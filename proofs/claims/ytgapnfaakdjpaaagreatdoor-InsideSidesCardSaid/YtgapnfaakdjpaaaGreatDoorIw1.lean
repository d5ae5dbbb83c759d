/- Winding numbers, plain: they do not depend on the direction. Winding numbers, plain: one of 1801 directions is good. Plain laws: where rays meet faces, the program and the reference. Winding numbers, plain: both ends of a segment that misses the mesh have the same one. Plain laws: the least t of a face is the first point of the way that lies in it. Plain: points on a mesh, winding numbers, sides, the first meeting of a ray. -/
import Derived.Test.YtgapnfaakdjpaaaGreatDoorMq1
namespace Go.Sx
open Go
def det3 (u v w:V3):Int:=u.dot (v.cross w)
def hitS (D p1 p2 p3:Int):Int:=if D≠0∧p1.sign=D.sign∧p2.sign=D.sign∧p3.sign=D.sign then D.sign else 0
def ccS (A B P Q:Int):Int:=if A < 0∧0≤B∧0 < P∧Q < 0 then 1 else if 0≤A∧B < 0∧P < 0∧0 < Q then -1 else 0
def rel3 (a b c:Int):Bool:=!((decide (0≤a)&&decide (0≤b)&&decide (0≤c)&&(decide (0 < a)||decide (0 < b)||decide (0 < c)))||(decide (a≤0)&&decide (b≤0)&&decide (c≤0)&&(decide (a < 0)||decide (b < 0)||decide (c < 0))))
def ag2 (s t r:Int):Bool:=decide (s≠-t)||decide (s=0)||decide (r=s)
def S3:List Int:=[-1,0,1]
def S2:List Int:=[-1,1]
def core1 (D p1 p2 p3 q1 q2 q3 A B C:Int):Bool :=
  !(ag2 (p2 * q3) (p3 * q2) (D * A)&&ag2 (p3 * q1) (p1 * q3) (D * B)&&ag2 (p1 * q2) (p2 * q1) (D * C)&&rel3 (p1 * A) (p2 * B) (p3 * C)&&rel3 (q1 * A) (q2 * B) (q3 * C)&&!(decide (A=0)&&decide (B=0)&&decide (C=0))) ||
  decide (hitS D p1 p2 p3 - hitS D q1 q2 q3=ccS A B p3 q3+ccS B C p1 q1+ccS C A p2 q2)
def core0 (p1 p2 p3 q1 q2 q3 A B C:Int):Bool :=
  !(decide (p2 * q3=p3 * q2)&&decide (p3 * q1=p1 * q3)&&decide (p1 * q2=p2 * q1)&&(decide (p1=0) == decide (q1=0))&&(decide (p2=0) == decide (q2=0))&&(decide (p3=0) == decide (q3=0))&&rel3 p1 p2 p3&&rel3 (p1 * A) (p2 * B) (p3 * C)) ||
  decide (ccS A B p3 q3+ccS B C p1 q1+ccS C A p2 q2=0)
/-! vectors -/
theorem V3.ext' {u v:V3} (h1:u.x=v.x) (h2:u.y=v.y) (h3:u.z=v.z):u=v:=by
  obtain ⟨_,_,_⟩:=u;obtain ⟨_,_,_⟩:=v;simp only at h1 h2 h3;subst h1 h2 h3;rfl
def V3.smul (k:Int) (v:V3):V3:=⟨k * v.x,k * v.y,k * v.z⟩
def V3.plus (a b:V3):V3:=⟨a.x+b.x,a.y+b.y,a.z+b.z⟩
theorem det_swap (d a b:V3):det3 d b a=- det3 d a b:=by
  simp only [det3,V3.dot,V3.cross];grind
theorem det_cyc (a b c:V3):det3 a b c=det3 b c a:=by
  simp only [det3,V3.dot,V3.cross];grind
def Out3 (a b c:V3):Prop:=∀ x y z:Int,0≤x→0≤y→0≤z→((V3.smul x a).plus (V3.smul y b)).plus (V3.smul z c)=V3.zero→x=0∧y=0∧z=0
def Clear (d a b:V3):Prop:=a.cross b≠V3.zero→det3 d a b≠0
theorem det_zero {d a b:V3} (h:a.cross b=V3.zero):det3 d a b=0:=by
  unfold det3;rw [h];simp [V3.dot,V3.zero]
theorem cross_ne {a b c:V3} (h:det3 a b c≠0):a.cross b≠V3.zero∧b.cross c≠V3.zero∧c.cross a≠V3.zero:=by
  refine ⟨fun e=>h ?_,fun e=>h ?_,fun e=>h ?_⟩
  · rw [det_cyc,det_cyc];exact det_zero e
  · exact det_zero e
  · rw [det_cyc];exact det_zero e
def hit3 (d a b c:V3):Int:=hitS (det3 a b c) (det3 d b c) (det3 d c a) (det3 d a b)
def cross3 (d e a b:V3):Int:=ccS (det3 d e a) (det3 d e b) (det3 d a b) (det3 e a b)
/-! a mesh, seen from a point -/
def relV (P:List V3) (p:V3) (i:Int):V3:=(ptAt P i).sub p
def hitF (P:List V3) (p d f:V3):Int:=hit3 d (relV P p f.x) (relV P p f.y) (relV P p f.z)
def windM (P F:List V3) (p d:V3):Int:=F.foldl (fun s f=>s+hitF P p d f) 0
theorem sum_edges {g:V3→Int} {h:Edg→Int} {F:List V3} (he:∀ f∈F,g f=h (f.x,f.y)+h (f.y,f.z)+h (f.z,f.x)):∀ {k:Nat},k≤F.length→(F.take k).foldl (fun s f=>s+g f) 0=sumE h (edgesL F (3 * k))
  | 0,_=>by simp [edgesL,sumE]
  | k + 1,hk=>by
    have ih:=sum_edges he (k:=k) (by omega)
    have hf:F[k]?=some F[k]:=List.getElem?_eq_getElem (by omega)
    have hg:=he F[k] (List.getElem_mem _)
    generalize F[k]=f at hf hg
    have e1:edgesL F (3 * (k+1))=edgesL F (3 * k)++[(f.x,f.y),(f.y,f.z),(f.z,f.x)]:=by
      rw [show 3 * (k+1)=3 * k+1+1+1 from rfl,edgesL_succ,edgesL_succ,edgesL_succ,edgeAt0 hf,edgeAt1 hf,edgeAt2 hf]
      simp
    rw [take_succ_foldl hf,ih,e1,sumE_append,hg]
    simp [sumE];omega
theorem Good.zero {P F:List V3} (hg:Good P F) {h:Edg→Int} (hs:∀ u,h u.swap=- h u) {g:V3→Int} (he:∀ f∈F,g f=h (f.x,f.y)+h (f.y,f.z)+h (f.z,f.x)):F.foldl (fun s f=>s+g f) 0=0:=by
  have:=sum_edges he (Nat.le_refl _)
  rw [List.take_length] at this
  rw [this]
  exact sumE_zero hs (hg.nodup (Nat.le_refl _)) fun u hu=>hg.swap hu
def ClearF (P:List V3) (p d f:V3):Prop:=Clear d (relV P p f.x) (relV P p f.y)∧Clear d (relV P p f.y) (relV P p f.z)∧Clear d (relV P p f.z) (relV P p f.x)
def OutF (P:List V3) (p f:V3):Prop:=det3 (relV P p f.x) (relV P p f.y) (relV P p f.z)=0→Out3 (relV P p f.x) (relV P p f.y) (relV P p f.z)
/-! directions that are clear of finitely many planes -/
def dirT (t:Nat):V3:=⟨1,t,(t:Int) * (t:Int)⟩
def nextTo (d e:V3) (N:Nat):V3:=(V3.smul (N:Int) d).plus e
def norms (P F:List V3) (p:V3):List V3:=F.flatMap fun f=>[(relV P p f.x).cross (relV P p f.y),(relV P p f.y).cross (relV P p f.z),(relV P p f.z).cross (relV P p f.x)]
def Fine (P F:List V3) (p d:V3):Prop:=∀ f∈F,det3 (relV P p f.x) (relV P p f.y) (relV P p f.z)≠0→det3 d (relV P p f.x) (relV P p f.y)≠0∧det3 d (relV P p f.y) (relV P p f.z)≠0∧det3 d (relV P p f.z) (relV P p f.x)≠0
end Go.Sx
namespace Go.Sx
open Go
theorem half_of_swap {E:List Edg} (hn:E.Nodup) (hs:∀ u∈E,u.swap∈E) (hd:∀ u∈E,u.1≠u.2):2 * (E.filter fun u=>decide (u.1 < u.2)).length=E.length:=by
  have h1:=List.length_eq_countP_add_countP (fun u:Edg=>decide (u.1 < u.2)) (l:=E)
  have h2:=(swap_perm hn hs).countP_eq (fun u:Edg=>decide (u.1 < u.2))
  rw [List.countP_map] at h2
  have h3:E.countP (fun u=>decide ¬decide (u.1 < u.2)=true)=E.countP ((fun u:Edg=>decide (u.1 < u.2)) ∘ Prod.swap):=by
    refine List.countP_congr fun u hu=>?_
    have:=hd u hu
    simp only [decide_eq_true_eq,Function.comp_apply,Prod.fst_swap,Prod.snd_swap]
    omega
  rw [← List.countP_eq_length_filter]
  omega
theorem nodup_le {l m:List Nat} (hn:l.Nodup) (h:∀ x∈l,x∈m):l.length≤m.length:=by
  induction l generalizing m with
  | nil=>simp
  | cons a l ih =>
    rw [List.nodup_cons] at hn
    have ha:a∈m:=h a (List.mem_cons_self ..)
    have:=ih (m:=m.erase a) hn.2 fun x hx=>(List.mem_erase_of_ne (fun e=>hn.1 (by rw [← e];exact hx))).2 (h x (List.mem_cons_of_mem _ hx))
    rw [List.length_erase_of_mem ha] at this
    have:=List.length_pos_of_mem ha
    rw [List.length_cons]
    omega
theorem two_roots {n:V3} (hn:n≠V3.zero):∃ R:List Nat,R.length≤2∧∀ t:Nat,(dirT t).dot n=0→t∈R:=by
  obtain ⟨x,y,z⟩:=n
  have e:∀ t:Nat,(dirT t).dot ⟨x,y,z⟩=x+(t:Int) * y+(t:Int) * (t:Int) * z:=fun t=>by simp only [dirT,V3.dot];grind
  by_cases h0:∃ a:Nat,(dirT a).dot ⟨x,y,z⟩=0
  · obtain ⟨a,ha⟩:=h0
    rw [e] at ha
    by_cases h1:∃ b:Nat,b≠a∧(dirT b).dot ⟨x,y,z⟩=0
    · obtain ⟨b,hba,hb⟩:=h1
      rw [e] at hb
      have k1:((b:Int) - a) * (y+((b:Int)+a) * z)=0:=by grind
      have k1:=(Int.mul_eq_zero.1 k1).resolve_left (by omega)
      refine ⟨[a,b],by simp,fun t ht=>?_⟩
      rw [e] at ht
      by_cases hta:t=a
      · subst hta;simp
      · have k2:((t:Int) - a) * (y+((t:Int)+a) * z)=0:=by grind
        have k2:=(Int.mul_eq_zero.1 k2).resolve_left (by omega)
        have k3:((t:Int) - b) * z=0:=by grind
        rcases Int.mul_eq_zero.1 k3 with h|h
        · have:t=b:=by omega
          subst this;simp
        · exfalso
          subst h
          have hy:y=0:=by simpa using k1
          subst hy
          have hx:x=0:=by simpa using ha
          subst hx
          exact hn rfl
    · refine ⟨[a],by simp,fun t ht=>?_⟩
      by_cases hta:t=a
      · subst hta;simp
      · exact absurd ⟨t,hta,ht⟩ h1
  · exact ⟨[],by simp,fun t ht=>absurd ⟨t,ht⟩ h0⟩
theorem all_roots:∀ L:List V3,∃ R:List Nat,R.length≤2 * L.length∧∀ t:Nat,∀ n∈L,n≠V3.zero→(dirT t).dot n=0→t∈R
  | []=>⟨[],by simp,fun _ _ h=>by simp at h⟩
  | n :: L=>by
    obtain ⟨R,h1,h2⟩:=all_roots L
    by_cases hn:n=V3.zero
    · refine ⟨R,by rw [List.length_cons];omega,fun t m hm h0 hz=>?_⟩
      rcases List.mem_cons.1 hm with rfl|hm
      · exact absurd hn h0
      · exact h2 t m hm h0 hz
    · obtain ⟨S,s1,s2⟩:=two_roots hn
      refine ⟨S++R,by rw [List.length_append,List.length_cons];omega,fun t m hm h0 hz=>?_⟩
      rcases List.mem_cons.1 hm with rfl|hm
      · exact List.mem_append.2 (.inl (s2 t hz))
      · exact List.mem_append.2 (.inr (h2 t m hm h0 hz))
theorem edge_mem {F:List V3} {f:V3} (hf:f∈F):(f.x,f.y)∈edgesL F (3 * F.length)∧(f.y,f.z)∈edgesL F (3 * F.length)∧(f.z,f.x)∈edgesL F (3 * F.length):=by
  obtain ⟨i,hi,rfl⟩:=List.getElem_of_mem hf
  have hg:F[i]?=some F[i]:=List.getElem?_eq_getElem hi
  have key:∀ k,k < 3→edgeAt F (3 * i+k)∈edgesL F (3 * F.length):=fun k hk=>List.mem_map.2 ⟨3 * i+k,List.mem_range.2 (by omega),rfl⟩
  have k0:=key 0 (by omega)
  have k1:=key 1 (by omega)
  have k2:=key 2 (by omega)
  rw [Nat.add_zero,edgeAt0 hg] at k0
  rw [edgeAt1 hg] at k1
  rw [edgeAt2 hg] at k2
  exact ⟨k0,k1,k2⟩
theorem cross_anti {a b:V3} (h:b.cross a=V3.zero):a.cross b=V3.zero:=by
  simp only [V3.cross,V3.zero,V3.mk.injEq] at h ⊢
  obtain ⟨h1,h2,h3⟩:=h
  refine ⟨?_,?_,?_⟩<;>grind
theorem pick {R:List Nat} {K:Nat} (h:R.length < K):∃ t,1≤t∧t≤K∧t ∉ R:=by
  refine Classical.byContradiction fun hn=>?_
  have:=nodup_le (l:=List.range' 1 K) (m:=R) List.nodup_range' fun t ht=>Classical.byContradiction fun h2=>hn (by
    rw [List.mem_range'_1] at ht
    exact ⟨t,ht.1,by omega,h2⟩)
  rw [List.length_range'] at this
  omega
def edgeN (P:List V3) (p:V3) (u:Edg):V3:=(relV P p u.1).cross (relV P p u.2)
def halfE (F:List V3):List Edg:=(edgesL F (3 * F.length)).filter fun u=>decide (u.1 < u.2)
theorem half_len {P F:List V3} (hg:Good P F):2 * (halfE F).length=3 * F.length:=by
  have hl:=half_of_swap (hg.nodup (Nat.le_refl (3 * F.length))) (fun u hu=>hg.swap (u:=u) hu) fun u hu=>hg.apart2 (u:=u) hu
  have hE:(edgesL F (3 * F.length)).length=3 * F.length:=by simp [edgesL]
  rw [hE] at hl
  exact hl
theorem half_key {P F:List V3} (hg:Good P F) {p:V3} {t:Nat} {R:List Nat} (hR:t ∉ R) (r2:∀ t:Nat,∀ n∈(halfE F).map (edgeN P p),n≠V3.zero→(dirT t).dot n=0→t∈R) {u:Edg} (hu:u∈edgesL F (3 * F.length)) (h0:edgeN P p u≠V3.zero):(dirT t).dot (edgeN P p u)≠0:=by
  intro hz
  rcases Int.lt_or_le u.1 u.2 with h|h
  · exact hR (r2 t (edgeN P p u) (List.mem_map.2 ⟨u,List.mem_filter.2 ⟨hu,by simpa using h⟩,rfl⟩) h0 hz)
  · have hlt:u.2 < u.1:=by have:=hg.apart2 hu;omega
    have e:edgeN P p u.swap≠V3.zero:=fun e=>h0 (cross_anti e)
    refine hR (r2 t (edgeN P p u.swap) (List.mem_map.2 ⟨u.swap,List.mem_filter.2 ⟨hg.swap hu,by simpa using hlt⟩,rfl⟩) e ?_)
    have h1:(dirT t).dot (edgeN P p u.swap)=- (dirT t).dot (edgeN P p u):=det_swap _ _ _
    rw [h1,hz];rfl
theorem dir_exists' {P F:List V3} (hg:Good P F) (p:V3) {K:Nat} (hK:3 * F.length < K):∃ t,1≤t∧t≤K∧Fine P F p (dirT t):=by
  have hl:=half_len hg
  obtain ⟨R,r1,r2⟩:=all_roots ((halfE F).map (edgeN P p))
  rw [List.length_map] at r1
  obtain ⟨t,t1,t2,hR⟩:=pick (R:=R) (K:=K) (by omega)
  refine ⟨t,t1,t2,fun f hf hD=>?_⟩
  obtain ⟨n3,n1,n2⟩:=cross_ne hD
  obtain ⟨m1,m2,m3⟩:=edge_mem hf
  have h1:=half_key hg hR r2 m1 n3
  have h2:=half_key hg hR r2 m2 n1
  have h3:=half_key hg hR r2 m3 n2
  clear r2 hR r1 hK hl
  unfold edgeN at h1 h2 h3
  unfold det3
  exact ⟨h1,h2,h3⟩
theorem dir_exists {P F:List V3} (hg:Good P F) (p:V3):∃ t,1≤t∧t≤1801∧Fine P F p (dirT t) :=
  dir_exists' hg p (by have:=hg.f600;omega)
end Go.Sx
namespace Go.Sx
open Go
/-! fractions of integers -/
def qI (n d:Int):Rat:=mkRat (if d < 0 then -n else n) d.natAbs
/-! spans of numbers -/
structure Spn where
  low:Rat
  high:Rat
  opn:Bool
def Spn.ne (s:Spn):Prop:=s.opn=true∨s.low≤s.high
instance (s:Spn):Decidable s.ne:=by unfold Spn.ne;infer_instance
def cutV (s:Spn) (u v:Int):Spn :=
  if 0 < v∧s.low < qI (-u) v then { s with low:=qI (-u) v }
  else if v < 0∧(s.opn=true∨qI (-u) v < s.high) then { s with high:=qI (-u) v,opn:=false } else s
def cutS (s:Spn) (u v:Int):Option Spn :=
  if v=0 then (if 0≤u then some s else none) else if (cutV s u v).ne then some (cutV s u v) else none
def cutR (s:Spn) (u v:Int):Option Spn :=
  if v=0 then (if 0≤u then some s else none) else some (cutV s u v)
theorem scale_sign {u u' α β:Int} (ha:0 < α) (hb:0 < β) (h:α * u=β * u'):(0 < u↔0 < u')∧(u < 0↔u' < 0):=by
  have p1:∀ {α u:Int},0 < α→(0 < α * u↔0 < u):=fun {α u} ha=>⟨fun h=>by
    rcases Int.lt_or_le 0 u with h1|h1
    · exact h1
    · have:=Int.mul_le_mul_of_nonneg_left h1 (Int.le_of_lt ha)
      rw [Int.mul_zero] at this
      omega,fun h=>Int.mul_pos ha h⟩
  have n1:∀ {α u:Int},0 < α→(α * u < 0↔u < 0):=fun {α u} ha=>by
    have:=p1 (u:=-u) ha
    rw [Int.mul_neg] at this
    omega
  exact ⟨by rw [← p1 ha,h,p1 hb],by rw [← n1 ha,h,n1 hb]⟩
/-! faces as seen from a point -/
def V3.proj (k:Nat) (v:V3):Int:=if k=0 then v.x else if k=1 then v.y else v.z
def axP (n:V3):Nat:=if n.z≠0 then 2 else if n.y≠0 then 1 else 0
def axR (n:V3):Nat:=if n.x≠0 then 0 else if n.y≠0 then 1 else if n.z≠0 then 2 else 0
theorem axP_ne {n:V3} (h:n≠V3.zero):n.proj (axP n)≠0:=by
  obtain ⟨x,y,z⟩:=n
  unfold axP V3.proj
  simp only [V3.zero,ne_eq,V3.mk.injEq] at h ⊢
  split<;>(try split)<;>simp_all
theorem axR_ne {n:V3} (h:n≠V3.zero):n.proj (axR n)≠0:=by
  obtain ⟨x,y,z⟩:=n
  unfold axR V3.proj
  simp only [V3.zero,ne_eq,V3.mk.injEq] at h ⊢
  split<;>(try split)<;>(try split)<;>simp_all
def nrm (a b c:V3):V3:=(b.sub a).cross (c.sub a)
theorem par_proj {m n:V3} (h:n.cross m=V3.zero) (k l:Nat):m.proj k * n.proj l=m.proj l * n.proj k:=by
  obtain ⟨a,b,c⟩:=m
  obtain ⟨x,y,z⟩:=n
  simp only [V3.cross,V3.zero,V3.mk.injEq] at h
  obtain ⟨h1,h2,h3⟩:=h
  unfold V3.proj
  split<;>split<;>(try split)<;>(try split)<;>simp only<;>grind
theorem flat_par {a b c:V3} (h:det3 a b c=0):(nrm a b c).cross (a.cross b)=V3.zero∧(nrm a b c).cross (b.cross c)=V3.zero∧(nrm a b c).cross (c.cross a)=V3.zero:=by
  obtain ⟨a1,a2,a3⟩:=a
  obtain ⟨b1,b2,b3⟩:=b
  obtain ⟨c1,c2,c3⟩:=c
  simp only [det3,V3.dot,V3.cross] at h
  simp only [nrm,V3.cross,V3.sub,V3.zero,V3.mk.injEq]
  refine ⟨⟨?_,?_,?_⟩,⟨?_,?_,?_⟩,⟨?_,?_,?_⟩⟩<;>grind
theorem cramer' (a b c d:V3):det3 a b c * d.x=det3 d b c * a.x+det3 a d c * b.x+det3 a b d * c.x∧det3 a b c * d.y=det3 d b c * a.y+det3 a d c * b.y+det3 a b d * c.y∧det3 a b c * d.z=det3 d b c * a.z+det3 a d c * b.z+det3 a b d * c.z:=by
  simp only [det3,V3.dot,V3.cross]
  refine ⟨?_,?_,?_⟩<;>grind
def hfU (k:Nat) (n a b:V3):Int:=(n.proj k).sign * (a.cross b).proj k
def hfV (k:Nat) (n a b d:V3):Int:=(n.proj k).sign * ((b.sub a).cross d).proj k
def natI (x:Int):Int:=(x.natAbs:Int)
theorem sign_mulI (x:Int):x.sign * x=natI x∧(0 < x.sign↔0 < x)∧(x.sign < 0↔x < 0):=by
  refine ⟨Int.sign_mul_self x,?_,?_⟩
  · rcases Int.lt_trichotomy x 0 with h|h|h
    · rw [Int.sign_eq_neg_one_of_neg h];omega
    · subst h;simp
    · rw [Int.sign_eq_one_of_pos h];omega
  · rcases Int.lt_trichotomy x 0 with h|h|h
    · rw [Int.sign_eq_neg_one_of_neg h];omega
    · subst h;simp
    · rw [Int.sign_eq_one_of_pos h];omega
theorem half_scale {m n:V3} (h:n.cross m=V3.zero) (k l:Nat):natI (n.proj l) * ((n.proj k).sign * m.proj k)=natI (n.proj k) * ((n.proj l).sign * m.proj l):=by
  have e:=par_proj h k l
  have s1:=(sign_mulI (n.proj k)).1
  have s2:=(sign_mulI (n.proj l)).1
  rw [← s1,← s2]
  generalize (n.proj k).sign=p at *
  generalize (n.proj l).sign=q at *
  grind
theorem natI_pos {x:Int} (h:x≠0):0 < natI x:=by unfold natI;omega
def cut3R (s:Spn) (k:Nat) (n a b c d:V3):Option Spn :=
  ((cutR s (hfU k n a b) (hfV k n a b d)).bind fun s=>cutR s (hfU k n b c) (hfV k n b c d)).bind fun s=>cutR s (hfU k n c a) (hfV k n c a d)
def cut3S (s:Spn) (k:Nat) (n a b c d:V3):Option Spn :=
  ((cutS s (hfU k n a b) (hfV k n a b d)).bind fun s=>cutS s (hfU k n b c) (hfV k n b c d)).bind fun s=>cutS s (hfU k n c a) (hfV k n c a d)
def holdsM (k:Nat) (a b c:V3):Bool:=decide (det3 a b c=0∧0≤hfU k (nrm a b c) a b∧0≤hfU k (nrm a b c) b c∧0≤hfU k (nrm a b c) c a)
theorem holdsM_axis {a b c:V3} {k l:Nat} (hk:(nrm a b c).proj k≠0) (hl:(nrm a b c).proj l≠0):holdsM k a b c=holdsM l a b c:=by
  unfold holdsM
  by_cases h0:det3 a b c=0
  · obtain ⟨p1,p2,p3⟩:=flat_par h0
    generalize nrm a b c=n at *
    have pk:=natI_pos hk
    have pl:=natI_pos hl
    have key:∀ {m:V3},n.cross m=V3.zero→(0≤(n.proj k).sign * m.proj k↔0≤(n.proj l).sign * m.proj l):=fun {m} h1=>by
      have:=(scale_sign pl pk (half_scale h1 k l)).2
      omega
    unfold hfU
    rw [decide_eq_decide,key p1,key p2,key p3]
  · rw [decide_eq_false fun h=>h0 h.1,decide_eq_false fun h=>h0 h.1]
def path0 (beyond:Bool):Spn:=⟨0,1,beyond⟩
def metP (beyond:Bool) (a b c d:V3):Option Rat :=
  if det3 a b c≠0 then
    if (det3 d b c).sign * (det3 a b c).sign < 0∨(det3 a d c).sign * (det3 a b c).sign < 0∨(det3 a b d).sign * (det3 a b c).sign < 0 then none
    else if beyond=true∨qI (det3 a b c) (det3 d b c+det3 a d c+det3 a b d)≤1 then some (qI (det3 a b c) (det3 d b c+det3 a d c+det3 a b d)) else none
  else if (nrm a b c).dot d≠0 then (if holdsM (axP (nrm a b c)) a b c then some 0 else none)
  else (cut3S (path0 beyond) (axP (nrm a b c)) (nrm a b c) a b c d).map (·.low)
def metR (beyond:Bool) (a b c d:V3):Option Rat :=
  if (nrm a b c).dot d≠0 then
    if (det3 d a b < 0∨det3 d b c < 0∨det3 d c a < 0)∧(0 < det3 d a b∨0 < det3 d b c∨0 < det3 d c a) then none
    else if 0≤qI ((nrm a b c).dot a) ((nrm a b c).dot d)∧(beyond=true∨¬ 1 < qI ((nrm a b c).dot a) ((nrm a b c).dot d)) then some (qI ((nrm a b c).dot a) ((nrm a b c).dot d)) else none
  else if (nrm a b c).dot a≠0 then none
  else ((cut3R (path0 beyond) (axR (nrm a b c)) (nrm a b c) a b c d).bind fun t=>if t.ne then some t else none).map (·.low)
theorem sgn_prod {x y:Int}:x.sign * y.sign < 0↔x * y < 0:=by
  rw [← Int.sign_mul]
  exact (sign_mulI (x * y)).2.2
theorem cyc3 (d c a:V3):det3 d c a=det3 a d c:=by simp only [det3,V3.dot,V3.cross];grind
theorem cyc3' (d a b:V3):det3 d a b=det3 a b d:=by simp only [det3,V3.dot,V3.cross];grind
end Go.Sx
namespace Go.Sx
open Go
def cmb3 (x y z:Int) (a b c:V3):V3:=⟨x * a.x+y * b.x+z * c.x,x * a.y+y * b.y+z * c.y,x * a.z+y * b.z+z * c.z⟩
def scal (k:Int) (v:V3):V3:=⟨k * v.x,k * v.y,k * v.z⟩
def HitI (a b c d:V3) (k m:Int):Prop:=0 < m∧∃ x y z:Int,0≤x∧0≤y∧0≤z∧x+y+z=m∧cmb3 x y z a b c=scal k d
def Miss (P:List V3) (p w f:V3):Prop:=∀ k m:Int,0≤k→k≤m→¬ HitI (relV P p f.x) (relV P p f.y) (relV P p f.z) w k m
end Go.Sx
namespace Go.Sx
open Go
/-! what the least t of a face is -/
def HitR (a b c d:V3) (t:Rat):Prop:=∃ k m:Int,t=qI k m∧HitI a b c d k m
def Spn.has (s:Spn) (t:Rat):Prop:=s.low≤t∧(s.opn=true∨t≤s.high)
def Half (k:Nat) (n a b d:V3) (t:Rat):Prop:=0≤(hfU k n a b:Rat)+t * (hfV k n a b d:Rat)
end Go.Sx
namespace Go.Sx
open Go
def onT (ax:V3→Nat) (a b c:V3):Bool:=holdsM (ax (nrm a b c)) a b c
def onM (ax:V3→Nat) (P F:List V3) (p:V3):Bool:=F.any fun f=>onT ax (relV P p f.x) (relV P p f.y) (relV P p f.z)
theorem nrm_rel (P:List V3) (p f:V3):nrm (relV P p f.x) (relV P p f.y) (relV P p f.z)=normal P f:=by
  unfold nrm normal relV
  rw [V3.eq_iff]
  simp only [V3.cross,V3.sub]
  refine ⟨?_,?_,?_⟩<;>grind
theorem Good.nz {P F:List V3} (hg:Good P F) {f:V3} (hf:f∈F):normal P f≠V3.zero:=by
  have h:=hg.flat
  unfold flatF at h
  rw [List.findIdx?_eq_none_iff] at h
  have:=h f hf
  unfold isFlat at this
  exact of_decide_eq_false this
theorem Good.nzR {P F:List V3} (hg:Good P F) (p:V3) {f:V3} (hf:f∈F):nrm (relV P p f.x) (relV P p f.y) (relV P p f.z)≠V3.zero:=by
  rw [nrm_rel];exact hg.nz hf
theorem onT_eq {a b c:V3} (hn:nrm a b c≠V3.zero):onT axP a b c=onT axR a b c:=holdsM_axis (axP_ne hn) (axR_ne hn)
theorem onM_eq {P F:List V3} (hg:Good P F) (p:V3):onM axP P F p=onM axR P F p:=by
  unfold onM
  rw [Bool.eq_iff_iff,List.any_eq_true,List.any_eq_true]
  exact ⟨fun ⟨f,hf,h⟩=>⟨f,hf,by rw [← onT_eq (hg.nzR p hf)];exact h⟩,fun ⟨f,hf,h⟩=>⟨f,hf,by rw [onT_eq (hg.nzR p hf)];exact h⟩⟩
def OnI (P:List V3) (p f:V3):Prop:=∃ x y z:Int,0≤x∧0≤y∧0≤z∧0 < x+y+z∧cmb3 x y z (relV P p f.x) (relV P p f.y) (relV P p f.z)=V3.zero
/-! the winding number -/
def fineT (d a b c:V3):Bool:=decide (det3 a b c=0)||(decide (det3 d b c≠0)&&decide (det3 a d c≠0)&&decide (det3 a b d≠0))
def fineB (P F:List V3) (p d:V3):Bool:=F.all fun f=>fineT d (relV P p f.x) (relV P p f.y) (relV P p f.z)
theorem fineB_iff {P F:List V3} {p d:V3}:fineB P F p d=true↔Fine P F p d:=by
  unfold fineB Fine fineT
  rw [List.all_eq_true]
  constructor
  · intro h f hf hD
    have:=h f hf
    simp only [decide_eq_false hD,Bool.false_or,Bool.and_eq_true,decide_eq_true_eq] at this
    exact ⟨by rw [cyc3'];exact this.2,this.1.1,by rw [cyc3];exact this.1.2⟩
  · intro h f hf
    by_cases hD:det3 (relV P p f.x) (relV P p f.y) (relV P p f.z)=0
    · simp [hD]
    · obtain ⟨h1,h2,h3⟩:=h f hf hD
      rw [cyc3'] at h1
      rw [cyc3] at h3
      simp only [decide_eq_true h1,decide_eq_true h2,decide_eq_true h3,Bool.and_self,Bool.or_true]
def goodT (P F:List V3) (p:V3):Option Nat:=(List.range' 1 1801).find? fun t=>fineB P F p (dirT t)
def windN (P F:List V3) (p:V3):Int:=match goodT P F p with
  | some t=>windM P F p (dirT t)
  | none=>0
theorem goodT_some {P F:List V3} (hg:Good P F) (p:V3):∃ t,goodT P F p=some t∧1≤t∧t≤1801∧Fine P F p (dirT t):=by
  obtain ⟨t,h1,h2,h3⟩:=dir_exists hg p
  cases h:goodT P F p with
  | none =>
    unfold goodT at h
    rw [List.find?_eq_none] at h
    exact absurd (fineB_iff.2 h3) (h t (by rw [List.mem_range'_1];omega))
  | some s =>
    unfold goodT at h
    have h4:=List.find?_some h
    have h5:=List.mem_of_find?_eq_some h
    rw [List.mem_range'_1] at h5
    exact ⟨s,rfl,by omega,by omega,fineB_iff.1 h4⟩
def wndW (P F:List V3) (p:V3):Int × Int :=
  if (flawM P F).1≠0 then (0,350) else if isFar p then (0,2) else if onM axP P F p then (0,8) else (windN P F p,0)
def sideW (P F:List V3) (p:V3):Int × Int :=
  if (flawM P F).1≠0 then (0,350) else if isFar p then (0,2) else if onM axP P F p then (1,0) else if windN P F p≠0 then (2,0) else (0,0)
/-! the first meeting -/
def bestS (b:Option (Rat × Nat)) (i:Nat) (o:Option Rat):Option (Rat × Nat):=match o with
  | none=>b
  | some t=>match b with
    | none=>some (t,i)
    | some (u,j)=>if t < u then some (t,i) else some (u,j)
def firstK (g:V3→Option Rat) (F:List V3):Nat→Option (Rat × Nat)
  | 0=>none
  | k+1=>bestS (firstK g F k) k ((F[k]?).bind g)
def rayM (met:Bool→V3→V3→V3→V3→Option Rat) (P F:List V3) (p q:V3) (beyond:Bool):Option (Rat × Nat) :=
  firstK (fun f=>met beyond (relV P p f.x) (relV P p f.y) (relV P p f.z) (q.sub p)) F F.length
def rayW (P F:List V3) (p q:V3) (beyond:Bool):Int ⊕ (Rat × Nat) :=
  if (flawM P F).1≠0 then .inl 350 else if isFar p∨isFar q∨p=q then .inl 2 else match rayM metP P F p q beyond with
    | none=>.inl 4
    | some r=>.inr r
end Go.Sx
