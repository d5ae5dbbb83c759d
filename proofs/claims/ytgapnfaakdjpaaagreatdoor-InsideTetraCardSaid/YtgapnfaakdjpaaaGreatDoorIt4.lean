/- Plain: the tetrahedron of InsideTetra is valid; the side by four signs, step by step. -/
import Derived.Test.YtgapnfaakdjpaaaGreatDoorIt1
import Derived.Test.YtgapnfaakdjpaaaGreatDoorMq1
namespace Go.Sx
open Go
variable {a b c e p:V3}
theorem dot_zero (w:V3):V3.zero.dot w=0:=by simp [V3.dot,V3.zero]
theorem tet_good (ha:a.in 200000) (hb:b.in 200000) (hc:c.in 200000) (he:e.in 200000) (hV:vol4 a b c e≠0):Good [a,b,c,e] tetF:=by
  refine good_of (by simp) (by simp) (by decide) (by decide) ?_ ?_ ?_
  · refine List.findIdx?_eq_none_iff.2 fun q hq=>?_
    have hq:q.in 200000:=by
      simp only [List.mem_cons,List.not_mem_nil,or_false] at hq
      rcases hq with rfl|rfl|rfl|rfl<;>assumption
    obtain ⟨t1,t2,t3,t4,t5,t6⟩:=hq
    simp only [isFar,Bool.or_eq_false_iff,decide_eq_false_iff_not]
    omega
  · exact (by decide:comb 4 tetF=true)
  · refine List.findIdx?_eq_none_iff.2 fun f hf=>?_
    simp only [isFlat,decide_eq_false_iff_not]
    intro h
    apply hV
    simp only [tetF,List.mem_cons,List.not_mem_nil,or_false] at hf
    rcases hf with rfl|rfl|rfl|rfl
    · have h:(c.sub a).cross (b.sub a)=V3.zero:=h
      have k:vol4 a b c e=-(((c.sub a).cross (b.sub a)).dot (e.sub a)):=by simp only [vol4,det3,V3.dot,V3.cross,V3.sub];grind
      rw [k,h,dot_zero];rfl
    · have h:(b.sub a).cross (e.sub a)=V3.zero:=h
      have k:vol4 a b c e=-(((b.sub a).cross (e.sub a)).dot (c.sub a)):=by simp only [vol4,det3,V3.dot,V3.cross,V3.sub];grind
      rw [k,h,dot_zero];rfl
    · have h:(e.sub a).cross (c.sub a)=V3.zero:=h
      have k:vol4 a b c e=-(((e.sub a).cross (c.sub a)).dot (b.sub a)):=by simp only [vol4,det3,V3.dot,V3.cross,V3.sub];grind
      rw [k,h,dot_zero];rfl
    · have h:(c.sub b).cross (e.sub b)=V3.zero:=h
      have k:vol4 a b c e=-(((c.sub b).cross (e.sub b)).dot (a.sub b)):=by simp only [vol4,det3,V3.dot,V3.cross,V3.sub];grind
      rw [k,h,dot_zero];rfl
def stepS (V d s:Int):Int:=if d=0 then (if 1 < s then 1 else s) else if (decide (0 < d) != decide (0 < V))=true then 0 else s
theorem step_cases {V d:Int} (hV:V≠0) (s:Int):(d * V < 0∧stepS V d s=0)∨(d=0∧d * V=0∧((1 < s∧stepS V d s=1)∨(s≤1∧stepS V d s=s)))∨(0 < d * V∧stepS V d s=s):=by
  unfold stepS
  by_cases h0:d=0
  · subst h0
    rw [if_pos rfl]
    refine .inr (.inl ⟨rfl,Int.zero_mul _,?_⟩)
    split<;>omega
  · rw [if_neg h0]
    rcases Int.lt_or_gt_of_ne h0 with h|h<;>rcases Int.lt_or_gt_of_ne hV with k|k
    · rw [if_neg (by simp;omega)]
      exact .inr (.inr ⟨Int.mul_pos_of_neg_of_neg h k,rfl⟩)
    · rw [if_pos (by simp;omega)]
      exact .inl ⟨Int.mul_neg_of_neg_of_pos h k,rfl⟩
    · rw [if_pos (by simp;omega)]
      exact .inl ⟨Int.mul_neg_of_pos_of_neg h k,rfl⟩
    · rw [if_neg (by simp;omega)]
      exact .inr (.inr ⟨Int.mul_pos h k,rfl⟩)
def sideS (V d1 d2 d3 d4:Int):Int:=stepS V d4 (stepS V d3 (stepS V d2 (stepS V d1 2)))
theorem side_cases {V d1 d2 d3 d4:Int} (hV:V≠0):(sideS V d1 d2 d3 d4=0∧(d1 * V < 0∨d2 * V < 0∨d3 * V < 0∨d4 * V < 0)) ∨
    (sideS V d1 d2 d3 d4=1∧(0≤d1 * V∧0≤d2 * V∧0≤d3 * V∧0≤d4 * V)∧(d1=0∨d2=0∨d3=0∨d4=0)) ∨
    (sideS V d1 d2 d3 d4=2∧0 < d1 * V∧0 < d2 * V∧0 < d3 * V∧0 < d4 * V):=by
  unfold sideS
  have k1:=step_cases (d:=d1) hV 2
  generalize stepS V d1 2=s1 at *
  have k2:=step_cases (d:=d2) hV s1
  generalize stepS V d2 s1=s2 at *
  have k3:=step_cases (d:=d3) hV s2
  generalize stepS V d3 s2=s3 at *
  have k4:=step_cases (d:=d4) hV s3
  generalize stepS V d4 s3=s4 at *
  generalize d1 * V=q1 at *
  generalize d2 * V=q2 at *
  generalize d3 * V=q3 at *
  generalize d4 * V=q4 at *
  have r1:(s1=0∧q1 < 0)∨(s1=1∧0≤q1∧d1=0)∨(s1=2∧0 < q1):=by omega
  clear k1
  have r2:(s2=0∧(q1 < 0∨q2 < 0))∨(s2=1∧0≤q1∧0≤q2∧(d1=0∨d2=0))∨(s2=2∧0 < q1∧0 < q2):=by omega
  clear k2 r1
  have r3:(s3=0∧(q1 < 0∨q2 < 0∨q3 < 0))∨(s3=1∧0≤q1∧0≤q2∧0≤q3∧(d1=0∨d2=0∨d3=0))∨(s3=2∧0 < q1∧0 < q2∧0 < q3):=by omega
  clear k3 r2
  omega
theorem sign_of_prod {d V:Int} (h:0 < d * V):d.sign=V.sign:=by
  have hd:d≠0:=fun e=>by rw [e,Int.zero_mul] at h;omega
  have hV:V≠0:=fun e=>by rw [e,Int.mul_zero] at h;omega
  rcases Int.lt_or_gt_of_ne hd with k|k<;>rcases Int.lt_or_gt_of_ne hV with q|q
  · rw [Int.sign_eq_neg_one_of_neg k,Int.sign_eq_neg_one_of_neg q]
  · have:=Int.mul_neg_of_neg_of_pos k q;omega
  · have:=Int.mul_neg_of_pos_of_neg k q;omega
  · rw [Int.sign_eq_one_of_pos k,Int.sign_eq_one_of_pos q]
theorem sign_prod {d V:Int} (hV:V≠0) (h:0≤d * V):0≤V.sign * d:=by
  rcases Int.lt_or_gt_of_ne hV with q|q
  · rw [Int.sign_eq_neg_one_of_neg q]
    have:d≤0:=Int.not_lt.1 fun k=>by have:=Int.mul_neg_of_pos_of_neg k q;omega
    omega
  · rw [Int.sign_eq_one_of_pos q]
    have:0≤d:=Int.not_lt.1 fun k=>by have:=Int.mul_neg_of_neg_of_pos k q;omega
    omega
theorem tet_side {V d1 d2 d3 d4:Int} (ha:a.in 200000) (hb:b.in 200000) (hc:c.in 200000) (he:e.in 200000) (hp:isFar p=false) (hV:vol4 a b c e=V) (hV0:V≠0)
    (h1:det3 (b.sub p) (c.sub p) (e.sub p)=d1) (h2:det3 (p.sub a) (c.sub a) (e.sub a)=d2) (h3:det3 (b.sub a) (p.sub a) (e.sub a)=d3) (h4:det3 (b.sub a) (c.sub a) (p.sub a)=d4) :
    sideW [a,b,c,e] tetF p=(sideS V d1 d2 d3 d4,0) ∧
    ((sideS V d1 d2 d3 d4=2∧wndW [a,b,c,e] tetF p=(V.sign,0))∨(sideS V d1 d2 d3 d4=0∧wndW [a,b,c,e] tetF p=(0,0))∨(sideS V d1 d2 d3 d4=1∧wndW [a,b,c,e] tetF p=(0,8))):=by
  have hg:=tet_good ha hb hc he (by rw [hV];exact hV0)
  have hs2:V.sign * V.sign=1:=by
    rcases Int.lt_or_gt_of_ne hV0 with q|q
    · rw [Int.sign_eq_neg_one_of_neg q];rfl
    · rw [Int.sign_eq_one_of_pos q];rfl
  have hsV:0 < V.sign * V:=by
    rcases Int.lt_or_gt_of_ne hV0 with q|q
    · rw [Int.sign_eq_neg_one_of_neg q];omega
    · rw [Int.sign_eq_one_of_pos q];omega
  have hf:(flawM [a,b,c,e] tetF).1=0:=okM_good.2 hg
  replace h2:det3 (a.sub p) (e.sub p) (c.sub p)=d2:=by rw [← h2];simp only [det3,V3.dot,V3.cross,V3.sub];grind
  replace h3:det3 (a.sub p) (b.sub p) (e.sub p)=d3:=by rw [← h3];simp only [det3,V3.dot,V3.cross,V3.sub];grind
  replace h4:det3 (a.sub p) (c.sub p) (b.sub p)=d4:=by rw [← h4];simp only [det3,V3.dot,V3.cross,V3.sub];grind
  rcases side_cases (d1:=d1) (d2:=d2) (d3:=d3) (d4:=d4) hV0 with ⟨hs,h⟩|⟨hs,⟨k1,k2,k3,k4⟩,h⟩|⟨hs,k1,k2,k3,k4⟩
  · obtain ⟨n,hn⟩:=tet_half (a:=a) (b:=b) (c:=c) (e:=e) (p:=p) hV.symm (by rw [h1,h2,h3,h4];exact h)
    have e1:=half_off hg hn
    have e2:=half_wind hg hn
    rw [hs]
    unfold sideW wndW
    simp [hf,hp,e1,e2]
  · have e1:=tet_on (p:=p) hg (s:=V.sign) hs2
      (by rw [h1];exact sign_prod hV0 k1) (by rw [h2];exact sign_prod hV0 k2) (by rw [h3];exact sign_prod hV0 k3) (by rw [h4];exact sign_prod hV0 k4) (by rw [h1,h2,h3,h4];exact h)
      (by rw [hV];exact hsV)
    rw [hs]
    unfold sideW wndW
    simp [hf,hp,e1]
  · obtain ⟨e1,e2⟩:=tet_hits (p:=p) hg (sign_S2 hV0) (by rw [h1];exact sign_of_prod k1) (by rw [h2];exact sign_of_prod k2) (by rw [h3];exact sign_of_prod k3) (by rw [h4];exact sign_of_prod k4)
    have e3:V.sign≠0:=by
      rcases Int.lt_or_gt_of_ne hV0 with q|q
      · rw [Int.sign_eq_neg_one_of_neg q];decide
      · rw [Int.sign_eq_one_of_pos q];decide
    rw [hs]
    unfold sideW wndW
    simp [hf,hp,e1,e2,e3]
end Go.Sx
