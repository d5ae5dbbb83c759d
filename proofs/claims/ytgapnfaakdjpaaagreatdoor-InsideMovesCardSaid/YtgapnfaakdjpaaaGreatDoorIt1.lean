/- Plain: a mesh whose corners all lie on one side of a plane through a point does not wind round the point; a tetrahedron and a point, by the signs of four determinants. -/
import Derived.Test.YtgapnfaakdjpaaaGreatDoorIw1
import Derived.Test.YtgapnfaakdjpaaaGreatDoorPl
namespace Go.Sx
open Go
theorem det3_neg (d a b:V3):det3 (V3.smul (-1) d) a b=- det3 d a b:=by
  simp only [det3,V3.dot,V3.cross,V3.smul];grind
def HalfF (P F:List V3) (p n:V3):Prop:=∀ f∈F,0 < n.dot (relV P p f.x)∧0 < n.dot (relV P p f.y)∧0 < n.dot (relV P p f.z)
theorem half_off {P F:List V3} (hg:Good P F) {p n:V3} (h:HalfF P F p n):onM axP P F p=false:=by
  cases ho:onM axP P F p with
  | false=>rfl
  | true =>
    obtain ⟨f,hf,x,y,z,hx,hy,hz,hs,he⟩:=(onM_iff hg).1 ho
    obtain ⟨h1,h2,h3⟩:=h f hf
    exfalso
    generalize relV P p f.x=a at *
    generalize relV P p f.y=b at *
    generalize relV P p f.z=c at *
    have e:x * n.dot a+y * n.dot b+z * n.dot c=0:=by
      simp only [cmb3,V3.zero,V3.mk.injEq] at he
      simp only [V3.dot]
      grind
    have k1:=Int.mul_nonneg hx (Int.le_of_lt h1)
    have k2:=Int.mul_nonneg hy (Int.le_of_lt h2)
    have k3:=Int.mul_nonneg hz (Int.le_of_lt h3)
    rcases Int.lt_or_eq_of_le hx with q|q
    · have:=Int.mul_pos q h1;omega
    rcases Int.lt_or_eq_of_le hy with q'|q'
    · have:=Int.mul_pos q' h2;omega
    have q'':0 < z:=by omega
    have:=Int.mul_pos q'' h3;omega
theorem half_hit {a b c d n:V3} (h1:0 < n.dot a) (h2:0 < n.dot b) (h3:0 < n.dot c) (hd:n.dot d≤0):hit3 d a b c=0:=by
  unfold hit3 hitS
  refine if_neg ?_
  rintro ⟨hD,s1,s2,s3⟩
  have e:det3 a b c * n.dot d=det3 d b c * n.dot a+det3 d c a * n.dot b+det3 d a b * n.dot c:=by
    simp only [det3,V3.dot,V3.cross];grind
  rcases Int.lt_or_gt_of_ne hD with q|q
  · have g:(det3 a b c).sign=-1:=Int.sign_eq_neg_one_of_neg q
    rw [g] at s1 s2 s3
    have t1:=Int.mul_neg_of_neg_of_pos (Int.neg_of_sign_eq_neg_one s1) h1
    have t2:=Int.mul_neg_of_neg_of_pos (Int.neg_of_sign_eq_neg_one s2) h2
    have t3:=Int.mul_neg_of_neg_of_pos (Int.neg_of_sign_eq_neg_one s3) h3
    have t4:=Int.mul_nonneg_of_nonpos_of_nonpos (Int.le_of_lt q) hd
    omega
  · have g:(det3 a b c).sign=1:=Int.sign_eq_one_of_pos q
    rw [g] at s1 s2 s3
    have t1:=Int.mul_pos (Int.pos_of_sign_eq_one s1) h1
    have t2:=Int.mul_pos (Int.pos_of_sign_eq_one s2) h2
    have t3:=Int.mul_pos (Int.pos_of_sign_eq_one s3) h3
    have t4:=Int.mul_nonpos_of_nonneg_of_nonpos (Int.le_of_lt q) hd
    omega
theorem fold_zero {g:V3→Int}:∀ (F:List V3),(∀ f∈F,g f=0)→∀ s,F.foldl (fun s f=>s+g f) s=s
  | [],_,s=>rfl
  | f::F,h,s=>by
    rw [List.foldl_cons,h f List.mem_cons_self,Int.add_zero]
    exact fold_zero F (fun x hx=>h x (List.mem_cons_of_mem _ hx)) s
theorem half_wind {P F:List V3} (hg:Good P F) {p n:V3} (h:HalfF P F p n):windN P F p=0:=by
  obtain ⟨t,_,_,_,hf⟩:=goodT_some hg p
  obtain ⟨d,hd,hfd⟩:∃ d,n.dot d≤0∧Fine P F p d:=by
    by_cases hq:n.dot (dirT t)≤0
    · exact ⟨_,hq,hf⟩
    · refine ⟨V3.smul (-1) (dirT t),?_,?_⟩
      · have e:n.dot (V3.smul (-1) (dirT t))=- n.dot (dirT t):=by simp only [V3.dot,V3.smul];grind
        omega
      · intro f hfF hD
        obtain ⟨k1,k2,k3⟩:=hf f hfF hD
        rw [det3_neg,det3_neg,det3_neg]
        exact ⟨by omega,by omega,by omega⟩
  rw [windN_eq hg (half_off hg h) hfd]
  unfold windM
  refine fold_zero F (fun f hfF=>?_) 0
  obtain ⟨h1,h2,h3⟩:=h f hfF
  exact half_hit h1 h2 h3 hd
/-! the tetrahedron -/
def relB (a b c:Int):Bool:=!(decide (0 < a)&&decide (0 < b)&&decide (0 < c))&&!(decide (a < 0)&&decide (b < 0)&&decide (c < 0))
def vol4 (a b c e:V3):Int:=det3 (b.sub a) (c.sub a) (e.sub a)
variable {a b c e p:V3}
end Go.Sx
