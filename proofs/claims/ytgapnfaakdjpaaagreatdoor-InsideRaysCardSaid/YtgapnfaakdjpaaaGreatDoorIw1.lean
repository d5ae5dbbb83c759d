/- Winding numbers, plain: they do not depend on the direction. -/
import Derived.Test.YtgapnfaakdjpaaaGreatDoorMq1
namespace Go.Sx
open Go
def det3 (u v w:V3):Int:=u.dot (v.cross w)
def hitS (D p1 p2 p3:Int):Int:=if D≠0∧p1.sign=D.sign∧p2.sign=D.sign∧p3.sign=D.sign then D.sign else 0
def ccS (A B P Q:Int):Int:=if A < 0∧0≤B∧0 < P∧Q < 0 then 1 else if 0≤A∧B < 0∧P < 0∧0 < Q then -1 else 0
def rel3 (a b c:Int):Bool:=!((decide (0≤a)&&decide (0≤b)&&decide (0≤c)&&(decide (0 < a)||decide (0 < b)||decide (0 < c)))||(decide (a≤0)&&decide (b≤0)&&decide (c≤0)&&(decide (a < 0)||decide (b < 0)||decide (c < 0))))
def ag2 (s t r:Int):Bool:=decide (s≠-t)||decide (s=0)||decide (r=s)
def S3:List Int:=[-1,0,1]
def S2:List Int:=[-1,1]
def core1 (D p1 p2 p3 q1 q2 q3 A B C:Int):Bool :=
  !(ag2 (p2 * q3) (p3 * q2) (D * A)&&ag2 (p3 * q1) (p1 * q3) (D * B)&&ag2 (p1 * q2) (p2 * q1) (D * C)&&rel3 (p1 * A) (p2 * B) (p3 * C)&&rel3 (q1 * A) (q2 * B) (q3 * C)&&!(decide (A=0)&&decide (B=0)&&decide (C=0))) ||
  decide (hitS D p1 p2 p3 - hitS D q1 q2 q3=ccS A B p3 q3+ccS B C p1 q1+ccS C A p2 q2)
def core0 (p1 p2 p3 q1 q2 q3 A B C:Int):Bool :=
  !(decide (p2 * q3=p3 * q2)&&decide (p3 * q1=p1 * q3)&&decide (p1 * q2=p2 * q1)&&(decide (p1=0) == decide (q1=0))&&(decide (p2=0) == decide (q2=0))&&(decide (p3=0) == decide (q3=0))&&rel3 p1 p2 p3&&rel3 (p1 * A) (p2 * B) (p3 * C)) ||
  decide (ccS A B p3 q3+ccS B C p1 q1+ccS C A p2 q2=0)
/-! vectors -/
theorem V3.ext' {u v:V3} (h1:u.x=v.x) (h2:u.y=v.y) (h3:u.z=v.z):u=v:=by
  obtain ⟨_,_,_⟩:=u;obtain ⟨_,_,_⟩:=v;simp only at h1 h2 h3;subst h1 h2 h3;rfl
def V3.smul (k:Int) (v:V3):V3:=⟨k * v.x,k * v.y,k * v.z⟩
def V3.plus (a b:V3):V3:=⟨a.x+b.x,a.y+b.y,a.z+b.z⟩
theorem det_swap (d a b:V3):det3 d b a=- det3 d a b:=by
  simp only [det3,V3.dot,V3.cross];grind
theorem det_cyc (a b c:V3):det3 a b c=det3 b c a:=by
  simp only [det3,V3.dot,V3.cross];grind
def Out3 (a b c:V3):Prop:=∀ x y z:Int,0≤x→0≤y→0≤z→((V3.smul x a).plus (V3.smul y b)).plus (V3.smul z c)=V3.zero→x=0∧y=0∧z=0
def Clear (d a b:V3):Prop:=a.cross b≠V3.zero→det3 d a b≠0
theorem det_zero {d a b:V3} (h:a.cross b=V3.zero):det3 d a b=0:=by
  unfold det3;rw [h];simp [V3.dot,V3.zero]
theorem cross_ne {a b c:V3} (h:det3 a b c≠0):a.cross b≠V3.zero∧b.cross c≠V3.zero∧c.cross a≠V3.zero:=by
  refine ⟨fun e=>h ?_,fun e=>h ?_,fun e=>h ?_⟩
  · rw [det_cyc,det_cyc];exact det_zero e
  · exact det_zero e
  · rw [det_cyc];exact det_zero e
def hit3 (d a b c:V3):Int:=hitS (det3 a b c) (det3 d b c) (det3 d c a) (det3 d a b)
def cross3 (d e a b:V3):Int:=ccS (det3 d e a) (det3 d e b) (det3 d a b) (det3 e a b)
/-! a mesh, seen from a point -/
def relV (P:List V3) (p:V3) (i:Int):V3:=(ptAt P i).sub p
def hitF (P:List V3) (p d f:V3):Int:=hit3 d (relV P p f.x) (relV P p f.y) (relV P p f.z)
def windM (P F:List V3) (p d:V3):Int:=F.foldl (fun s f=>s+hitF P p d f) 0
theorem sum_edges {g:V3→Int} {h:Edg→Int} {F:List V3} (he:∀ f∈F,g f=h (f.x,f.y)+h (f.y,f.z)+h (f.z,f.x)):∀ {k:Nat},k≤F.length→(F.take k).foldl (fun s f=>s+g f) 0=sumE h (edgesL F (3 * k))
  | 0,_=>by simp [edgesL,sumE]
  | k + 1,hk=>by
    have ih:=sum_edges he (k:=k) (by omega)
    have hf:F[k]?=some F[k]:=List.getElem?_eq_getElem (by omega)
    have hg:=he F[k] (List.getElem_mem _)
    generalize F[k]=f at hf hg
    have e1:edgesL F (3 * (k+1))=edgesL F (3 * k)++[(f.x,f.y),(f.y,f.z),(f.z,f.x)]:=by
      rw [show 3 * (k+1)=3 * k+1+1+1 from rfl,edgesL_succ,edgesL_succ,edgesL_succ,edgeAt0 hf,edgeAt1 hf,edgeAt2 hf]
      simp
    rw [take_succ_foldl hf,ih,e1,sumE_append,hg]
    simp [sumE];omega
theorem Good.zero {P F:List V3} (hg:Good P F) {h:Edg→Int} (hs:∀ u,h u.swap=- h u) {g:V3→Int} (he:∀ f∈F,g f=h (f.x,f.y)+h (f.y,f.z)+h (f.z,f.x)):F.foldl (fun s f=>s+g f) 0=0:=by
  have:=sum_edges he (Nat.le_refl _)
  rw [List.take_length] at this
  rw [this]
  exact sumE_zero hs (hg.nodup (Nat.le_refl _)) fun u hu=>hg.swap hu
def ClearF (P:List V3) (p d f:V3):Prop:=Clear d (relV P p f.x) (relV P p f.y)∧Clear d (relV P p f.y) (relV P p f.z)∧Clear d (relV P p f.z) (relV P p f.x)
def OutF (P:List V3) (p f:V3):Prop:=det3 (relV P p f.x) (relV P p f.y) (relV P p f.z)=0→Out3 (relV P p f.x) (relV P p f.y) (relV P p f.z)
/-! directions that are clear of finitely many planes -/
def dirT (t:Nat):V3:=⟨1,t,(t:Int) * (t:Int)⟩
def nextTo (d e:V3) (N:Nat):V3:=(V3.smul (N:Int) d).plus e
def norms (P F:List V3) (p:V3):List V3:=F.flatMap fun f=>[(relV P p f.x).cross (relV P p f.y),(relV P p f.y).cross (relV P p f.z),(relV P p f.z).cross (relV P p f.x)]
def Fine (P F:List V3) (p d:V3):Prop:=∀ f∈F,det3 (relV P p f.x) (relV P p f.y) (relV P p f.z)≠0→det3 d (relV P p f.x) (relV P p f.y)≠0∧det3 d (relV P p f.y) (relV P p f.z)≠0∧det3 d (relV P p f.z) (relV P p f.x)≠0
end Go.Sx
namespace Go.Sx
open Go
theorem half_of_swap {E:List Edg} (hn:E.Nodup) (hs:∀ u∈E,u.swap∈E) (hd:∀ u∈E,u.1≠u.2):2 * (E.filter fun u=>decide (u.1 < u.2)).length=E.length:=by
  have h1:=List.length_eq_countP_add_countP (fun u:Edg=>decide (u.1 < u.2)) (l:=E)
  have h2:=(swap_perm hn hs).countP_eq (fun u:Edg=>decide (u.1 < u.2))
  rw [List.countP_map] at h2
  have h3:E.countP (fun u=>decide ¬decide (u.1 < u.2)=true)=E.countP ((fun u:Edg=>decide (u.1 < u.2)) ∘ Prod.swap):=by
    refine List.countP_congr fun u hu=>?_
    have:=hd u hu
    simp only [decide_eq_true_eq,Function.comp_apply,Prod.fst_swap,Prod.snd_swap]
    omega
  rw [← List.countP_eq_length_filter]
  omega
theorem nodup_le {l m:List Nat} (hn:l.Nodup) (h:∀ x∈l,x∈m):l.length≤m.length:=by
  induction l generalizing m with
  | nil=>simp
  | cons a l ih =>
    rw [List.nodup_cons] at hn
    have ha:a∈m:=h a (List.mem_cons_self ..)
    have:=ih (m:=m.erase a) hn.2 fun x hx=>(List.mem_erase_of_ne (fun e=>hn.1 (by rw [← e];exact hx))).2 (h x (List.mem_cons_of_mem _ hx))
    rw [List.length_erase_of_mem ha] at this
    have:=List.length_pos_of_mem ha
    rw [List.length_cons]
    omega
theorem two_roots {n:V3} (hn:n≠V3.zero):∃ R:List Nat,R.length≤2∧∀ t:Nat,(dirT t).dot n=0→t∈R:=by
  obtain ⟨x,y,z⟩:=n
  have e:∀ t:Nat,(dirT t).dot ⟨x,y,z⟩=x+(t:Int) * y+(t:Int) * (t:Int) * z:=fun t=>by simp only [dirT,V3.dot];grind
  by_cases h0:∃ a:Nat,(dirT a).dot ⟨x,y,z⟩=0
  · obtain ⟨a,ha⟩:=h0
    rw [e] at ha
    by_cases h1:∃ b:Nat,b≠a∧(dirT b).dot ⟨x,y,z⟩=0
    · obtain ⟨b,hba,hb⟩:=h1
      rw [e] at hb
      have k1:((b:Int) - a) * (y+((b:Int)+a) * z)=0:=by grind
      have k1:=(Int.mul_eq_zero.1 k1).resolve_left (by omega)
      refine ⟨[a,b],by simp,fun t ht=>?_⟩
      rw [e] at ht
      by_cases hta:t=a
      · subst hta;simp
      · have k2:((t:Int) - a) * (y+((t:Int)+a) * z)=0:=by grind
        have k2:=(Int.mul_eq_zero.1 k2).resolve_left (by omega)
        have k3:((t:Int) - b) * z=0:=by grind
        rcases Int.mul_eq_zero.1 k3 with h|h
        · have:t=b:=by omega
          subst this;simp
        · exfalso
          subst h
          have hy:y=0:=by simpa using k1
          subst hy
          have hx:x=0:=by simpa using ha
          subst hx
          exact hn rfl
    · refine ⟨[a],by simp,fun t ht=>?_⟩
      by_cases hta:t=a
      · subst hta;simp
      · exact absurd ⟨t,hta,ht⟩ h1
  · exact ⟨[],by simp,fun t ht=>absurd ⟨t,ht⟩ h0⟩
theorem all_roots:∀ L:List V3,∃ R:List Nat,R.length≤2 * L.length∧∀ t:Nat,∀ n∈L,n≠V3.zero→(dirT t).dot n=0→t∈R
  | []=>⟨[],by simp,fun _ _ h=>by simp at h⟩
  | n :: L=>by
    obtain ⟨R,h1,h2⟩:=all_roots L
    by_cases hn:n=V3.zero
    · refine ⟨R,by rw [List.length_cons];omega,fun t m hm h0 hz=>?_⟩
      rcases List.mem_cons.1 hm with rfl|hm
      · exact absurd hn h0
      · exact h2 t m hm h0 hz
    · obtain ⟨S,s1,s2⟩:=two_roots hn
      refine ⟨S++R,by rw [List.length_append,List.length_cons];omega,fun t m hm h0 hz=>?_⟩
      rcases List.mem_cons.1 hm with rfl|hm
      · exact List.mem_append.2 (.inl (s2 t hz))
      · exact List.mem_append.2 (.inr (h2 t m hm h0 hz))
theorem edge_mem {F:List V3} {f:V3} (hf:f∈F):(f.x,f.y)∈edgesL F (3 * F.length)∧(f.y,f.z)∈edgesL F (3 * F.length)∧(f.z,f.x)∈edgesL F (3 * F.length):=by
  obtain ⟨i,hi,rfl⟩:=List.getElem_of_mem hf
  have hg:F[i]?=some F[i]:=List.getElem?_eq_getElem hi
  have key:∀ k,k < 3→edgeAt F (3 * i+k)∈edgesL F (3 * F.length):=fun k hk=>List.mem_map.2 ⟨3 * i+k,List.mem_range.2 (by omega),rfl⟩
  have k0:=key 0 (by omega)
  have k1:=key 1 (by omega)
  have k2:=key 2 (by omega)
  rw [Nat.add_zero,edgeAt0 hg] at k0
  rw [edgeAt1 hg] at k1
  rw [edgeAt2 hg] at k2
  exact ⟨k0,k1,k2⟩
theorem cross_anti {a b:V3} (h:b.cross a=V3.zero):a.cross b=V3.zero:=by
  simp only [V3.cross,V3.zero,V3.mk.injEq] at h ⊢
  obtain ⟨h1,h2,h3⟩:=h
  refine ⟨?_,?_,?_⟩<;>grind
theorem pick {R:List Nat} {K:Nat} (h:R.length < K):∃ t,1≤t∧t≤K∧t ∉ R:=by
  refine Classical.byContradiction fun hn=>?_
  have:=nodup_le (l:=List.range' 1 K) (m:=R) List.nodup_range' fun t ht=>Classical.byContradiction fun h2=>hn (by
    rw [List.mem_range'_1] at ht
    exact ⟨t,ht.1,by omega,h2⟩)
  rw [List.length_range'] at this
  omega
def edgeN (P:List V3) (p:V3) (u:Edg):V3:=(relV P p u.1).cross (relV P p u.2)
def halfE (F:List V3):List Edg:=(edgesL F (3 * F.length)).filter fun u=>decide (u.1 < u.2)
theorem half_len {P F:List V3} (hg:Good P F):2 * (halfE F).length=3 * F.length:=by
  have hl:=half_of_swap (hg.nodup (Nat.le_refl (3 * F.length))) (fun u hu=>hg.swap (u:=u) hu) fun u hu=>hg.apart2 (u:=u) hu
  have hE:(edgesL F (3 * F.length)).length=3 * F.length:=by simp [edgesL]
  rw [hE] at hl
  exact hl
theorem half_key {P F:List V3} (hg:Good P F) {p:V3} {t:Nat} {R:List Nat} (hR:t ∉ R) (r2:∀ t:Nat,∀ n∈(halfE F).map (edgeN P p),n≠V3.zero→(dirT t).dot n=0→t∈R) {u:Edg} (hu:u∈edgesL F (3 * F.length)) (h0:edgeN P p u≠V3.zero):(dirT t).dot (edgeN P p u)≠0:=by
  intro hz
  rcases Int.lt_or_le u.1 u.2 with h|h
  · exact hR (r2 t (edgeN P p u) (List.mem_map.2 ⟨u,List.mem_filter.2 ⟨hu,by simpa using h⟩,rfl⟩) h0 hz)
  · have hlt:u.2 < u.1:=by have:=hg.apart2 hu;omega
    have e:edgeN P p u.swap≠V3.zero:=fun e=>h0 (cross_anti e)
    refine hR (r2 t (edgeN P p u.swap) (List.mem_map.2 ⟨u.swap,List.mem_filter.2 ⟨hg.swap hu,by simpa using hlt⟩,rfl⟩) e ?_)
    have h1:(dirT t).dot (edgeN P p u.swap)=- (dirT t).dot (edgeN P p u):=det_swap _ _ _
    rw [h1,hz];rfl
theorem dir_exists' {P F:List V3} (hg:Good P F) (p:V3) {K:Nat} (hK:3 * F.length < K):∃ t,1≤t∧t≤K∧Fine P F p (dirT t):=by
  have hl:=half_len hg
  obtain ⟨R,r1,r2⟩:=all_roots ((halfE F).map (edgeN P p))
  rw [List.length_map] at r1
  obtain ⟨t,t1,t2,hR⟩:=pick (R:=R) (K:=K) (by omega)
  refine ⟨t,t1,t2,fun f hf hD=>?_⟩
  obtain ⟨n3,n1,n2⟩:=cross_ne hD
  obtain ⟨m1,m2,m3⟩:=edge_mem hf
  have h1:=half_key hg hR r2 m1 n3
  have h2:=half_key hg hR r2 m2 n1
  have h3:=half_key hg hR r2 m3 n2
  clear r2 hR r1 hK hl
  unfold edgeN at h1 h2 h3
  unfold det3
  exact ⟨h1,h2,h3⟩
theorem dir_exists {P F:List V3} (hg:Good P F) (p:V3):∃ t,1≤t∧t≤1801∧Fine P F p (dirT t) :=
  dir_exists' hg p (by have:=hg.f600;omega)
end Go.Sx
namespace Go.Sx
open Go
/-! fractions of integers -/
def qI (n d:Int):Rat:=mkRat (if d < 0 then -n else n) d.natAbs
theorem qI_div {n d:Int}:qI n d=Rat.divInt n d:=by
  unfold qI
  cases d with
  | ofNat d =>
    have h:¬ (Int.ofNat d) < 0:=by have:=Int.natCast_nonneg d;exact Int.not_lt.2 this
    rw [if_neg h];rfl
  | negSucc d =>
    rw [if_pos (Int.negSucc_lt_zero d)]
    rw [Rat.divInt,← Rat.normalize_eq_mkRat (by omega)]
    rfl
theorem qI_eq {a b c d:Int} (hb:b≠0) (hd:d≠0):qI a b=qI c d↔a * d=c * b:=by
  rw [qI_div,qI_div,Rat.divInt_eq_divInt_iff hb hd]
theorem qI_nonneg {n d:Int} (hd:d≠0):0≤qI n d↔0≤n * d:=by
  unfold qI
  have e:(0:Rat)≤mkRat (if d < 0 then -n else n) d.natAbs↔0≤(if d < 0 then -n else n):=by
    rw [← Rat.num_nonneg]
    have e0:d.natAbs≠0:=by omega
    rw [← Rat.normalize_eq_mkRat e0,Rat.normalize_eq]
    have hg:0 < Nat.gcd (if d < 0 then -n else n).natAbs d.natAbs:=Nat.gcd_pos_of_pos_right _ (by omega)
    simp only
    generalize (if d < 0 then -n else n)=y at *
    rw [Int.le_ediv_iff_mul_le (by omega),Int.zero_mul]
  rw [e]
  by_cases h:d < 0
  · rw [if_pos h]
    constructor
    · intro h1;exact Int.mul_nonneg_of_nonpos_of_nonpos (by omega) (by omega)
    · intro h1
      rcases Int.lt_or_le 0 n with h2|h2
      · have:=Int.mul_neg_of_pos_of_neg h2 h;omega
      · omega
  · rw [if_neg h]
    constructor
    · intro h1;exact Int.mul_nonneg h1 (by omega)
    · intro h1
      rcases Int.lt_or_le n 0 with h2|h2
      · have:=Int.mul_neg_of_neg_of_pos h2 (show 0 < d by omega);omega
      · exact h2
theorem qI_zero (d:Int):qI 0 d=0:=by
  unfold qI;split<;>simp
/-! spans of numbers -/
structure Spn where
  low:Rat
  high:Rat
  opn:Bool
def Spn.ne (s:Spn):Prop:=s.opn=true∨s.low≤s.high
instance (s:Spn):Decidable s.ne:=by unfold Spn.ne;infer_instance
def cutV (s:Spn) (u v:Int):Spn :=
  if 0 < v∧s.low < qI (-u) v then { s with low:=qI (-u) v }
  else if v < 0∧(s.opn=true∨qI (-u) v < s.high) then { s with high:=qI (-u) v,opn:=false } else s
def cutS (s:Spn) (u v:Int):Option Spn :=
  if v=0 then (if 0≤u then some s else none) else if (cutV s u v).ne then some (cutV s u v) else none
def cutR (s:Spn) (u v:Int):Option Spn :=
  if v=0 then (if 0≤u then some s else none) else some (cutV s u v)
theorem cutV_ne {s:Spn} {u v:Int} (h:(cutV s u v).ne):s.ne:=by
  unfold cutV at h
  split at h
  · rename_i h1
    rcases h with h|h
    · exact .inl h
    · exact .inr (Rat.le_trans (Rat.le_of_lt h1.2) h)
  · split at h
    · rename_i h1
      rcases h with h|h
      · cases h
      · rcases h1.2 with h2|h2
        · exact .inl h2
        · exact .inr (Rat.le_trans h (Rat.le_of_lt h2))
    · exact h
theorem cutR_ne {s t:Spn} {u v:Int} (h:cutR s u v=some t) (hn:t.ne):s.ne:=by
  unfold cutR at h
  split at h
  · split at h
    · rw [Option.some.inj h];exact hn
    · cases h
  · rw [← Option.some.inj h] at hn;exact cutV_ne hn
theorem cutS_R {s:Spn} {u v:Int} (hs:s.ne):cutS s u v=(cutR s u v).bind fun t=>if t.ne then some t else none:=by
  unfold cutS cutR
  split
  · split
    · rw [Option.bind_some,if_pos hs]
    · rfl
  · rfl
theorem qI_scale {u v u' v' α β:Int} (ha:0 < α) (hb:0 < β) (h1:α * u=β * u') (h2:α * v=β * v') (hv:v≠0) (hv':v'≠0):qI (-u) v=qI (-u') v':=by
  rw [qI_eq hv hv']
  have:α * β * (-u * v')=α * β * (-u' * v):=by grind
  exact Int.eq_of_mul_eq_mul_left (Int.ne_of_gt (Int.mul_pos ha hb)) this
theorem scale_sign {u u' α β:Int} (ha:0 < α) (hb:0 < β) (h:α * u=β * u'):(0 < u↔0 < u')∧(u < 0↔u' < 0):=by
  have p1:∀ {α u:Int},0 < α→(0 < α * u↔0 < u):=fun {α u} ha=>⟨fun h=>by
    rcases Int.lt_or_le 0 u with h1|h1
    · exact h1
    · have:=Int.mul_le_mul_of_nonneg_left h1 (Int.le_of_lt ha)
      rw [Int.mul_zero] at this
      omega,fun h=>Int.mul_pos ha h⟩
  have n1:∀ {α u:Int},0 < α→(α * u < 0↔u < 0):=fun {α u} ha=>by
    have:=p1 (u:=-u) ha
    rw [Int.mul_neg] at this
    omega
  exact ⟨by rw [← p1 ha,h,p1 hb],by rw [← n1 ha,h,n1 hb]⟩
theorem cutV_scale {s:Spn} {u v u' v' α β:Int} (ha:0 < α) (hb:0 < β) (h1:α * u=β * u') (h2:α * v=β * v') (hv:v≠0):cutV s u v=cutV s u' v':=by
  obtain ⟨s1,s2⟩:=scale_sign ha hb h2
  have hv':v'≠0:=by omega
  unfold cutV
  rw [qI_scale ha hb h1 h2 hv hv']
  simp only [s1,s2]
theorem cutR_scale {s:Spn} {u v u' v' α β:Int} (ha:0 < α) (hb:0 < β) (h1:α * u=β * u') (h2:α * v=β * v'):cutR s u v=cutR s u' v':=by
  obtain ⟨s1,s2⟩:=scale_sign ha hb h2
  obtain ⟨t1,t2⟩:=scale_sign ha hb h1
  unfold cutR
  by_cases hv:v=0
  · have hv':v'=0:=by omega
    rw [if_pos hv,if_pos hv']
    by_cases hu:0≤u
    · rw [if_pos hu,if_pos (show 0≤u' by omega)]
    · rw [if_neg hu,if_neg (show ¬ 0≤u' by omega)]
  · rw [if_neg hv,if_neg (show ¬ v'=0 by omega),cutV_scale ha hb h1 h2 hv]
/-! faces as seen from a point -/
def V3.proj (k:Nat) (v:V3):Int:=if k=0 then v.x else if k=1 then v.y else v.z
def axP (n:V3):Nat:=if n.z≠0 then 2 else if n.y≠0 then 1 else 0
def axR (n:V3):Nat:=if n.x≠0 then 0 else if n.y≠0 then 1 else if n.z≠0 then 2 else 0
theorem axP_ne {n:V3} (h:n≠V3.zero):n.proj (axP n)≠0:=by
  obtain ⟨x,y,z⟩:=n
  unfold axP V3.proj
  simp only [V3.zero,ne_eq,V3.mk.injEq] at h ⊢
  split<;>(try split)<;>simp_all
theorem axR_ne {n:V3} (h:n≠V3.zero):n.proj (axR n)≠0:=by
  obtain ⟨x,y,z⟩:=n
  unfold axR V3.proj
  simp only [V3.zero,ne_eq,V3.mk.injEq] at h ⊢
  split<;>(try split)<;>(try split)<;>simp_all
def nrm (a b c:V3):V3:=(b.sub a).cross (c.sub a)
theorem par_proj {m n:V3} (h:n.cross m=V3.zero) (k l:Nat):m.proj k * n.proj l=m.proj l * n.proj k:=by
  obtain ⟨a,b,c⟩:=m
  obtain ⟨x,y,z⟩:=n
  simp only [V3.cross,V3.zero,V3.mk.injEq] at h
  obtain ⟨h1,h2,h3⟩:=h
  unfold V3.proj
  split<;>split<;>(try split)<;>(try split)<;>simp only<;>grind
theorem par_dot {m n:V3} (h:n.cross m=V3.zero) (d:V3) (k:Nat):d.dot m * n.proj k=m.proj k * d.dot n:=by
  have h0:=par_proj h k 0
  have h1:=par_proj h k 1
  have h2:=par_proj h k 2
  have e:∀ v:V3,v.proj 0=v.x∧v.proj 1=v.y∧v.proj 2=v.z:=fun v=>⟨rfl,rfl,rfl⟩
  rw [(e m).1,(e n).1] at h0
  rw [(e m).2.1,(e n).2.1] at h1
  rw [(e m).2.2,(e n).2.2] at h2
  unfold V3.dot
  generalize m.proj k=mk at *
  generalize n.proj k=nk at *
  grind
theorem flat_par {a b c:V3} (h:det3 a b c=0):(nrm a b c).cross (a.cross b)=V3.zero∧(nrm a b c).cross (b.cross c)=V3.zero∧(nrm a b c).cross (c.cross a)=V3.zero:=by
  obtain ⟨a1,a2,a3⟩:=a
  obtain ⟨b1,b2,b3⟩:=b
  obtain ⟨c1,c2,c3⟩:=c
  simp only [det3,V3.dot,V3.cross] at h
  simp only [nrm,V3.cross,V3.sub,V3.zero,V3.mk.injEq]
  refine ⟨⟨?_,?_,?_⟩,⟨?_,?_,?_⟩,⟨?_,?_,?_⟩⟩<;>grind
theorem edge_par {n e d:V3} (h1:n.dot e=0) (h2:n.dot d=0):n.cross (e.cross d)=V3.zero:=by
  obtain ⟨a1,a2,a3⟩:=n
  obtain ⟨b1,b2,b3⟩:=e
  obtain ⟨c1,c2,c3⟩:=d
  simp only [V3.dot] at h1 h2
  simp only [V3.cross,V3.zero,V3.mk.injEq]
  refine ⟨?_,?_,?_⟩<;>grind
theorem nrm_edges (a b c:V3):(nrm a b c).dot (b.sub a)=0∧(nrm a b c).dot (c.sub b)=0∧(nrm a b c).dot (a.sub c)=0:=by
  simp only [nrm,V3.dot,V3.cross,V3.sub]
  refine ⟨?_,?_,?_⟩<;>grind
theorem nrm_dot (a b c:V3):(nrm a b c).dot a=det3 a b c:=by
  simp only [nrm,det3,V3.dot,V3.cross,V3.sub];grind
theorem share_sum (a b c d:V3):det3 d b c+det3 a d c+det3 a b d=(nrm a b c).dot d:=by
  simp only [nrm,det3,V3.dot,V3.cross,V3.sub];grind
theorem cramer' (a b c d:V3):det3 a b c * d.x=det3 d b c * a.x+det3 a d c * b.x+det3 a b d * c.x∧det3 a b c * d.y=det3 d b c * a.y+det3 a d c * b.y+det3 a b d * c.y∧det3 a b c * d.z=det3 d b c * a.z+det3 a d c * b.z+det3 a b d * c.z:=by
  simp only [det3,V3.dot,V3.cross]
  refine ⟨?_,?_,?_⟩<;>grind
theorem share_z (a b d:V3):det3 a b d=d.dot (a.cross b):=by simp only [det3,V3.dot,V3.cross];grind
theorem share_y (a c d:V3):det3 a d c=d.dot (c.cross a):=by simp only [det3,V3.dot,V3.cross];grind
def hfU (k:Nat) (n a b:V3):Int:=(n.proj k).sign * (a.cross b).proj k
def hfV (k:Nat) (n a b d:V3):Int:=(n.proj k).sign * ((b.sub a).cross d).proj k
def natI (x:Int):Int:=(x.natAbs:Int)
theorem sign_mulI (x:Int):x.sign * x=natI x∧(0 < x.sign↔0 < x)∧(x.sign < 0↔x < 0):=by
  refine ⟨Int.sign_mul_self x,?_,?_⟩
  · rcases Int.lt_trichotomy x 0 with h|h|h
    · rw [Int.sign_eq_neg_one_of_neg h];omega
    · subst h;simp
    · rw [Int.sign_eq_one_of_pos h];omega
  · rcases Int.lt_trichotomy x 0 with h|h|h
    · rw [Int.sign_eq_neg_one_of_neg h];omega
    · subst h;simp
    · rw [Int.sign_eq_one_of_pos h];omega
theorem half_scale {m n:V3} (h:n.cross m=V3.zero) (k l:Nat):natI (n.proj l) * ((n.proj k).sign * m.proj k)=natI (n.proj k) * ((n.proj l).sign * m.proj l):=by
  have e:=par_proj h k l
  have s1:=(sign_mulI (n.proj k)).1
  have s2:=(sign_mulI (n.proj l)).1
  rw [← s1,← s2]
  generalize (n.proj k).sign=p at *
  generalize (n.proj l).sign=q at *
  grind
theorem natI_pos {x:Int} (h:x≠0):0 < natI x:=by unfold natI;omega
def cut3R (s:Spn) (k:Nat) (n a b c d:V3):Option Spn :=
  ((cutR s (hfU k n a b) (hfV k n a b d)).bind fun s=>cutR s (hfU k n b c) (hfV k n b c d)).bind fun s=>cutR s (hfU k n c a) (hfV k n c a d)
def cut3S (s:Spn) (k:Nat) (n a b c d:V3):Option Spn :=
  ((cutS s (hfU k n a b) (hfV k n a b d)).bind fun s=>cutS s (hfU k n b c) (hfV k n b c d)).bind fun s=>cutS s (hfU k n c a) (hfV k n c a d)
theorem cut3_SR {s:Spn} (hs:s.ne) {k:Nat} {n a b c d:V3}:cut3S s k n a b c d=(cut3R s k n a b c d).bind fun t=>if t.ne then some t else none:=by
  unfold cut3S cut3R
  generalize hfU k n a b=u1;generalize hfV k n a b d=v1
  generalize hfU k n b c=u2;generalize hfV k n b c d=v2
  generalize hfU k n c a=u3;generalize hfV k n c a d=v3
  have step:∀ {s:Spn} (u v:Int),(∀ t,cutR s u v=some t→¬ t.ne→∀ u' v' t',cutR t u' v'=some t'→¬ t'.ne):=fun u v t _ hn u' v' t' h k=>hn (cutR_ne h k)
  rw [cutS_R hs]
  cases h1:cutR s u1 v1 with
  | none=>rfl
  | some s1 =>
    simp only [Option.bind_some]
    by_cases n1:s1.ne
    · rw [if_pos n1,Option.bind_some,cutS_R n1]
      cases h2:cutR s1 u2 v2 with
      | none=>rfl
      | some s2 =>
        simp only [Option.bind_some]
        by_cases n2:s2.ne
        · rw [if_pos n2,Option.bind_some,cutS_R n2]
        · rw [if_neg n2,Option.bind_none]
          cases h3:cutR s2 u3 v3 with
          | none=>rfl
          | some s3=>rw [Option.bind_some,if_neg fun k=>n2 (cutR_ne h3 k)]
    · rw [if_neg n1,Option.bind_none,Option.bind_none]
      cases h2:cutR s1 u2 v2 with
      | none=>rfl
      | some s2 =>
        have n2:¬ s2.ne:=fun k=>n1 (cutR_ne h2 k)
        simp only [Option.bind_some]
        cases h3:cutR s2 u3 v3 with
        | none=>rfl
        | some s3=>rw [Option.bind_some,if_neg fun k=>n2 (cutR_ne h3 k)]
theorem cut3R_axis {s:Spn} {a b c d:V3} (h0:det3 a b c=0) (hd:(nrm a b c).dot d=0) {k l:Nat} (hk:(nrm a b c).proj k≠0) (hl:(nrm a b c).proj l≠0) :
    cut3R s k (nrm a b c) a b c d=cut3R s l (nrm a b c) a b c d:=by
  obtain ⟨p1,p2,p3⟩:=flat_par h0
  obtain ⟨e1,e2,e3⟩:=nrm_edges a b c
  have q1:=edge_par e1 hd
  have q2:=edge_par e2 hd
  have q3:=edge_par e3 hd
  generalize nrm a b c=n at *
  have pk:=natI_pos hk
  have pl:=natI_pos hl
  have key:∀ {m m':V3} (s:Spn),n.cross m=V3.zero→n.cross m'=V3.zero→cutR s ((n.proj k).sign * m.proj k) ((n.proj k).sign * m'.proj k)=cutR s ((n.proj l).sign * m.proj l) ((n.proj l).sign * m'.proj l):=fun {m m'} s h1 h2 =>
    cutR_scale pl pk (half_scale h1 k l) (half_scale h2 k l)
  unfold cut3R hfU hfV
  rw [key s p1 q1]
  congr 1
  · congr 1
    funext s
    exact key s p2 q2
  · funext s
    exact key s p3 q3
def holdsM (k:Nat) (a b c:V3):Bool:=decide (det3 a b c=0∧0≤hfU k (nrm a b c) a b∧0≤hfU k (nrm a b c) b c∧0≤hfU k (nrm a b c) c a)
theorem half_dot {m n d:V3} (h:n.cross m=V3.zero) {k:Nat} (hk:n.proj k≠0) (hd:d.dot n≠0):0≤(n.proj k).sign * m.proj k↔0≤d.dot m * d.dot n:=by
  have e:=par_dot h d k
  obtain ⟨s1,s2,s3⟩:=sign_mulI (n.proj k)
  have pk:=natI_pos hk
  generalize d.dot n=σ at *
  generalize d.dot m=x at *
  generalize n.proj k=q at *
  generalize m.proj k=y at *
  -- x q = y σ ; claim: 0 <= sgn q * y iff 0 <= x σ
  have h1:natI q * (x * σ)=(σ * σ) * (q.sign * y):=by rw [← s1];grind
  have h2:0 < σ * σ:=by
    rcases Int.lt_or_gt_of_ne hd with h|h
    · exact Int.mul_pos_of_neg_of_neg h h
    · exact Int.mul_pos h h
  have:=(scale_sign pk h2 h1).2
  omega
def path0 (beyond:Bool):Spn:=⟨0,1,beyond⟩
theorem path_ne (beyond:Bool):(path0 beyond).ne:=.inr (show (0:Rat)≤1 by decide)
def metP (beyond:Bool) (a b c d:V3):Option Rat :=
  if det3 a b c≠0 then
    if (det3 d b c).sign * (det3 a b c).sign < 0∨(det3 a d c).sign * (det3 a b c).sign < 0∨(det3 a b d).sign * (det3 a b c).sign < 0 then none
    else if beyond=true∨qI (det3 a b c) (det3 d b c+det3 a d c+det3 a b d)≤1 then some (qI (det3 a b c) (det3 d b c+det3 a d c+det3 a b d)) else none
  else if (nrm a b c).dot d≠0 then (if holdsM (axP (nrm a b c)) a b c then some 0 else none)
  else (cut3S (path0 beyond) (axP (nrm a b c)) (nrm a b c) a b c d).map (·.low)
def metR (beyond:Bool) (a b c d:V3):Option Rat :=
  if (nrm a b c).dot d≠0 then
    if (det3 d a b < 0∨det3 d b c < 0∨det3 d c a < 0)∧(0 < det3 d a b∨0 < det3 d b c∨0 < det3 d c a) then none
    else if 0≤qI ((nrm a b c).dot a) ((nrm a b c).dot d)∧(beyond=true∨¬ 1 < qI ((nrm a b c).dot a) ((nrm a b c).dot d)) then some (qI ((nrm a b c).dot a) ((nrm a b c).dot d)) else none
  else if (nrm a b c).dot a≠0 then none
  else ((cut3R (path0 beyond) (axR (nrm a b c)) (nrm a b c) a b c d).bind fun t=>if t.ne then some t else none).map (·.low)
theorem sgn_prod {x y:Int}:x.sign * y.sign < 0↔x * y < 0:=by
  rw [← Int.sign_mul]
  exact (sign_mulI (x * y)).2.2
theorem neg_iff {x y:Int} (hy:y≠0):(x * y < 0↔(0 < y∧x < 0)∨(y < 0∧0 < x)):=by
  rcases Int.lt_or_gt_of_ne hy with h|h
  · have:=(scale_sign (α:=1) (β:=-y) (u:=-(x * y)) (u':=x) (by decide) (by omega) (by grind)).1
    omega
  · have:=(scale_sign (α:=1) (β:=y) (u:=x * y) (u':=x) (by decide) h (by grind)).2
    omega
theorem cyc3 (d c a:V3):det3 d c a=det3 a d c:=by simp only [det3,V3.dot,V3.cross];grind
theorem cyc3' (d a b:V3):det3 d a b=det3 a b d:=by simp only [det3,V3.dot,V3.cross];grind
theorem met_eq (beyond:Bool) {a b c d:V3} (hn:nrm a b c≠V3.zero) (hd:d≠V3.zero):metP beyond a b c d=metR beyond a b c d:=by
  have hs:=share_sum a b c d
  have hdp:=nrm_dot a b c
  unfold metP metR
  rw [cyc3 d c a,cyc3' d a b,hdp]
  by_cases h0:det3 a b c=0
  · rw [if_neg (fun h=>h h0)]
    by_cases hnd:(nrm a b c).dot d=0
    · rw [if_neg (fun h=>h hnd),if_neg (fun h=>h hnd),if_neg (fun h=>h h0),cut3_SR (path_ne _),cut3R_axis h0 hnd (axP_ne hn) (axR_ne hn)]
    · rw [if_pos hnd,if_pos hnd,h0,qI_zero]
      have hp:=axP_ne hn
      obtain ⟨p1,p2,p3⟩:=flat_par h0
      have e:d.dot (nrm a b c)=(nrm a b c).dot d:=by simp only [V3.dot];grind
      have hnd':d.dot (nrm a b c)≠0:=by rw [e];exact hnd
      have k1:=half_dot p1 hp hnd'
      have k2:=half_dot p2 hp hnd'
      have k3:=half_dot p3 hp hnd'
      rw [← share_z] at k1
      rw [← share_y] at k3
      rw [show d.dot (b.cross c)=det3 d b c from rfl] at k2
      rw [e] at k1 k2 k3
      have i1:=neg_iff (x:=det3 a b d) hnd
      have i2:=neg_iff (x:=det3 d b c) hnd
      have i3:=neg_iff (x:=det3 a d c) hnd
      unfold holdsM hfU
      simp only [h0,true_and,k1,k2,k3]
      generalize det3 a b d=z at *
      generalize det3 d b c=x at *
      generalize det3 a d c=y at *
      generalize (nrm a b c).dot d=σ at *
      have q1:(0:Rat)≤0:=by decide
      have q2:¬ (1:Rat) < 0:=by decide
      by_cases hm:(z < 0∨x < 0∨y < 0)∧(0 < z∨0 < x∨0 < y)
      · rw [if_pos hm,if_neg]
        rw [decide_eq_true_eq]
        omega
      · rw [if_neg hm,if_pos (show (0:Rat)≤0∧(beyond=true∨¬ (1:Rat) < 0) from ⟨q1,.inr q2⟩),if_pos]
        rw [decide_eq_true_eq]
        omega
  · rw [if_pos h0]
    simp only [sgn_prod,hs]
    have i1:=neg_iff (x:=det3 a b d) h0
    have i2:=neg_iff (x:=det3 d b c) h0
    have i3:=neg_iff (x:=det3 a d c) h0
    by_cases hnd:(nrm a b c).dot d=0
    · rw [if_neg (c:=(nrm a b c).dot d≠0) (fun h=>h hnd),if_pos (c:=det3 a b c≠0) h0]
      by_cases hm:det3 d b c * det3 a b c < 0∨det3 a d c * det3 a b c < 0∨det3 a b d * det3 a b c < 0
      · rw [if_pos hm]
      · exfalso
        obtain ⟨c1,c2,c3⟩:=cramer' a b c d
        rw [hnd] at hs
        have z1:det3 d b c=0:=by omega
        have z2:det3 a d c=0:=by omega
        have z3:det3 a b d=0:=by omega
        rw [z1,z2,z3] at c1 c2 c3
        simp only [Int.zero_mul,Int.add_zero,Int.mul_eq_zero] at c1 c2 c3
        apply hd
        obtain ⟨x,y,w⟩:=d
        simp only at c1 c2 c3
        rw [c1.resolve_left h0,c2.resolve_left h0,c3.resolve_left h0];rfl
    · rw [if_pos hnd]
      have hq:=qI_nonneg (n:=det3 a b c) hnd
      have j1:=neg_iff (x:=det3 a b c) hnd
      generalize det3 a b d=z at *
      generalize det3 d b c=x at *
      generalize det3 a d c=y at *
      generalize (nrm a b c).dot d=σ at *
      generalize det3 a b c=dp at *
      by_cases hm:x * dp < 0∨y * dp < 0∨z * dp < 0
      · rw [if_pos hm]
        by_cases hx:(z < 0∨x < 0∨y < 0)∧(0 < z∨0 < x∨0 < y)
        · rw [if_pos hx]
        · rw [if_neg hx,if_neg]
          rintro ⟨g,_⟩
          rw [hq] at g
          omega
      · have hx:¬ ((z < 0∨x < 0∨y < 0)∧(0 < z∨0 < x∨0 < y)):=by omega
        rw [if_neg hm,if_neg hx]
        have g:0≤qI dp σ:=by
          rw [hq]
          have:¬ dp * σ < 0:=by rw [j1];omega
          omega
        by_cases hb:beyond=true∨qI dp σ≤1
        · rw [if_pos hb,if_pos]
          rcases hb with hb|hb
          · exact ⟨g,.inl hb⟩
          · exact ⟨g,.inr (Rat.not_lt.2 hb)⟩
        · rw [if_neg hb,if_neg]
          rintro ⟨_,hb2⟩
          rcases hb2 with h|h
          · exact hb (.inl h)
          · exact hb (.inr (Rat.not_lt.1 h))
end Go.Sx
namespace Go.Sx
open Go
def cmb3 (x y z:Int) (a b c:V3):V3:=⟨x * a.x+y * b.x+z * c.x,x * a.y+y * b.y+z * c.y,x * a.z+y * b.z+z * c.z⟩
def scal (k:Int) (v:V3):V3:=⟨k * v.x,k * v.y,k * v.z⟩
def HitI (a b c d:V3) (k m:Int):Prop:=0 < m∧∃ x y z:Int,0≤x∧0≤y∧0≤z∧x+y+z=m∧cmb3 x y z a b c=scal k d
def Miss (P:List V3) (p w f:V3):Prop:=∀ k m:Int,0≤k→k≤m→¬ HitI (relV P p f.x) (relV P p f.y) (relV P p f.z) w k m
end Go.Sx
namespace Go.Sx
open Go
/-! what the least t of a face is -/
def HitR (a b c d:V3) (t:Rat):Prop:=∃ k m:Int,t=qI k m∧HitI a b c d k m
def Spn.has (s:Spn) (t:Rat):Prop:=s.low≤t∧(s.opn=true∨t≤s.high)
def Half (k:Nat) (n a b d:V3) (t:Rat):Prop:=0≤(hfU k n a b:Rat)+t * (hfV k n a b d:Rat)
end Go.Sx
namespace Go.Sx
open Go
def onT (ax:V3→Nat) (a b c:V3):Bool:=holdsM (ax (nrm a b c)) a b c
def onM (ax:V3→Nat) (P F:List V3) (p:V3):Bool:=F.any fun f=>onT ax (relV P p f.x) (relV P p f.y) (relV P p f.z)
theorem nrm_rel (P:List V3) (p f:V3):nrm (relV P p f.x) (relV P p f.y) (relV P p f.z)=normal P f:=by
  unfold nrm normal relV
  rw [V3.eq_iff]
  simp only [V3.cross,V3.sub]
  refine ⟨?_,?_,?_⟩<;>grind
theorem Good.nz {P F:List V3} (hg:Good P F) {f:V3} (hf:f∈F):normal P f≠V3.zero:=by
  have h:=hg.flat
  unfold flatF at h
  rw [List.findIdx?_eq_none_iff] at h
  have:=h f hf
  unfold isFlat at this
  exact of_decide_eq_false this
theorem Good.nzR {P F:List V3} (hg:Good P F) (p:V3) {f:V3} (hf:f∈F):nrm (relV P p f.x) (relV P p f.y) (relV P p f.z)≠V3.zero:=by
  rw [nrm_rel];exact hg.nz hf
def OnI (P:List V3) (p f:V3):Prop:=∃ x y z:Int,0≤x∧0≤y∧0≤z∧0 < x+y+z∧cmb3 x y z (relV P p f.x) (relV P p f.y) (relV P p f.z)=V3.zero
/-! the winding number -/
def fineT (d a b c:V3):Bool:=decide (det3 a b c=0)||(decide (det3 d b c≠0)&&decide (det3 a d c≠0)&&decide (det3 a b d≠0))
def fineB (P F:List V3) (p d:V3):Bool:=F.all fun f=>fineT d (relV P p f.x) (relV P p f.y) (relV P p f.z)
theorem fineB_iff {P F:List V3} {p d:V3}:fineB P F p d=true↔Fine P F p d:=by
  unfold fineB Fine fineT
  rw [List.all_eq_true]
  constructor
  · intro h f hf hD
    have:=h f hf
    simp only [decide_eq_false hD,Bool.false_or,Bool.and_eq_true,decide_eq_true_eq] at this
    exact ⟨by rw [cyc3'];exact this.2,this.1.1,by rw [cyc3];exact this.1.2⟩
  · intro h f hf
    by_cases hD:det3 (relV P p f.x) (relV P p f.y) (relV P p f.z)=0
    · simp [hD]
    · obtain ⟨h1,h2,h3⟩:=h f hf hD
      rw [cyc3'] at h1
      rw [cyc3] at h3
      simp only [decide_eq_true h1,decide_eq_true h2,decide_eq_true h3,Bool.and_self,Bool.or_true]
def goodT (P F:List V3) (p:V3):Option Nat:=(List.range' 1 1801).find? fun t=>fineB P F p (dirT t)
def windN (P F:List V3) (p:V3):Int:=match goodT P F p with
  | some t=>windM P F p (dirT t)
  | none=>0
theorem goodT_some {P F:List V3} (hg:Good P F) (p:V3):∃ t,goodT P F p=some t∧1≤t∧t≤1801∧Fine P F p (dirT t):=by
  obtain ⟨t,h1,h2,h3⟩:=dir_exists hg p
  cases h:goodT P F p with
  | none =>
    unfold goodT at h
    rw [List.find?_eq_none] at h
    exact absurd (fineB_iff.2 h3) (h t (by rw [List.mem_range'_1];omega))
  | some s =>
    unfold goodT at h
    have h4:=List.find?_some h
    have h5:=List.mem_of_find?_eq_some h
    rw [List.mem_range'_1] at h5
    exact ⟨s,rfl,by omega,by omega,fineB_iff.1 h4⟩
def wndW (P F:List V3) (p:V3):Int × Int :=
  if (flawM P F).1≠0 then (0,350) else if isFar p then (0,2) else if onM axP P F p then (0,8) else (windN P F p,0)
def sideW (P F:List V3) (p:V3):Int × Int :=
  if (flawM P F).1≠0 then (0,350) else if isFar p then (0,2) else if onM axP P F p then (1,0) else if windN P F p≠0 then (2,0) else (0,0)
/-! the first meeting -/
def bestS (b:Option (Rat × Nat)) (i:Nat) (o:Option Rat):Option (Rat × Nat):=match o with
  | none=>b
  | some t=>match b with
    | none=>some (t,i)
    | some (u,j)=>if t < u then some (t,i) else some (u,j)
def firstK (g:V3→Option Rat) (F:List V3):Nat→Option (Rat × Nat)
  | 0=>none
  | k+1=>bestS (firstK g F k) k ((F[k]?).bind g)
theorem firstK_congr {g h:V3→Option Rat} {F:List V3} (he:∀ f∈F,g f=h f):∀ k,firstK g F k=firstK h F k
  | 0=>rfl
  | k+1=>by
    unfold firstK
    rw [firstK_congr he k]
    congr 1
    cases hk:F[k]? with
    | none=>rfl
    | some f=>exact he f (List.mem_of_getElem? hk)
def rayM (met:Bool→V3→V3→V3→V3→Option Rat) (P F:List V3) (p q:V3) (beyond:Bool):Option (Rat × Nat) :=
  firstK (fun f=>met beyond (relV P p f.x) (relV P p f.y) (relV P p f.z) (q.sub p)) F F.length
theorem rayM_eq {P F:List V3} (hg:Good P F) {p q:V3} (hpq:p≠q) (beyond:Bool):rayM metP P F p q beyond=rayM metR P F p q beyond:=by
  refine firstK_congr (fun f hf=>met_eq beyond (hg.nzR p hf) ?_) _
  intro h
  apply hpq
  rw [V3.eq_iff]
  simp only [V3.sub,V3.zero,V3.mk.injEq] at h
  omega
def rayW (P F:List V3) (p q:V3) (beyond:Bool):Int ⊕ (Rat × Nat) :=
  if (flawM P F).1≠0 then .inl 350 else if isFar p∨isFar q∨p=q then .inl 2 else match rayM metP P F p q beyond with
    | none=>.inl 4
    | some r=>.inr r
end Go.Sx
