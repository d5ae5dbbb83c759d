/- Plain: a mesh whose corners all lie on one side of a plane through a point does not wind round the point; a tetrahedron and a point, by the signs of four determinants. -/
import Derived.Test.YtgapnfaakdjpaaaGreatDoorIw1
import Derived.Test.YtgapnfaakdjpaaaGreatDoorPl
namespace Go.Sx
open Go
theorem det3_neg (d a b:V3):det3 (V3.smul (-1) d) a b=- det3 d a b:=by
  simp only [det3,V3.dot,V3.cross,V3.smul];grind
def HalfF (P F:List V3) (p n:V3):Prop:=∀ f∈F,0 < n.dot (relV P p f.x)∧0 < n.dot (relV P p f.y)∧0 < n.dot (relV P p f.z)
theorem half_off {P F:List V3} (hg:Good P F) {p n:V3} (h:HalfF P F p n):onM axP P F p=false:=by
  cases ho:onM axP P F p with
  | false=>rfl
  | true =>
    obtain ⟨f,hf,x,y,z,hx,hy,hz,hs,he⟩:=(onM_iff hg).1 ho
    obtain ⟨h1,h2,h3⟩:=h f hf
    exfalso
    generalize relV P p f.x=a at *
    generalize relV P p f.y=b at *
    generalize relV P p f.z=c at *
    have e:x * n.dot a+y * n.dot b+z * n.dot c=0:=by
      simp only [cmb3,V3.zero,V3.mk.injEq] at he
      simp only [V3.dot]
      grind
    have k1:=Int.mul_nonneg hx (Int.le_of_lt h1)
    have k2:=Int.mul_nonneg hy (Int.le_of_lt h2)
    have k3:=Int.mul_nonneg hz (Int.le_of_lt h3)
    rcases Int.lt_or_eq_of_le hx with q|q
    · have:=Int.mul_pos q h1;omega
    rcases Int.lt_or_eq_of_le hy with q'|q'
    · have:=Int.mul_pos q' h2;omega
    have q'':0 < z:=by omega
    have:=Int.mul_pos q'' h3;omega
theorem half_hit {a b c d n:V3} (h1:0 < n.dot a) (h2:0 < n.dot b) (h3:0 < n.dot c) (hd:n.dot d≤0):hit3 d a b c=0:=by
  unfold hit3 hitS
  refine if_neg ?_
  rintro ⟨hD,s1,s2,s3⟩
  have e:det3 a b c * n.dot d=det3 d b c * n.dot a+det3 d c a * n.dot b+det3 d a b * n.dot c:=by
    simp only [det3,V3.dot,V3.cross];grind
  rcases Int.lt_or_gt_of_ne hD with q|q
  · have g:(det3 a b c).sign=-1:=Int.sign_eq_neg_one_of_neg q
    rw [g] at s1 s2 s3
    have t1:=Int.mul_neg_of_neg_of_pos (Int.neg_of_sign_eq_neg_one s1) h1
    have t2:=Int.mul_neg_of_neg_of_pos (Int.neg_of_sign_eq_neg_one s2) h2
    have t3:=Int.mul_neg_of_neg_of_pos (Int.neg_of_sign_eq_neg_one s3) h3
    have t4:=Int.mul_nonneg_of_nonpos_of_nonpos (Int.le_of_lt q) hd
    omega
  · have g:(det3 a b c).sign=1:=Int.sign_eq_one_of_pos q
    rw [g] at s1 s2 s3
    have t1:=Int.mul_pos (Int.pos_of_sign_eq_one s1) h1
    have t2:=Int.mul_pos (Int.pos_of_sign_eq_one s2) h2
    have t3:=Int.mul_pos (Int.pos_of_sign_eq_one s3) h3
    have t4:=Int.mul_nonpos_of_nonneg_of_nonpos (Int.le_of_lt q) hd
    omega
theorem fold_zero {g:V3→Int}:∀ (F:List V3),(∀ f∈F,g f=0)→∀ s,F.foldl (fun s f=>s+g f) s=s
  | [],_,s=>rfl
  | f::F,h,s=>by
    rw [List.foldl_cons,h f List.mem_cons_self,Int.add_zero]
    exact fold_zero F (fun x hx=>h x (List.mem_cons_of_mem _ hx)) s
theorem half_wind {P F:List V3} (hg:Good P F) {p n:V3} (h:HalfF P F p n):windN P F p=0:=by
  obtain ⟨t,_,_,_,hf⟩:=goodT_some hg p
  obtain ⟨d,hd,hfd⟩:∃ d,n.dot d≤0∧Fine P F p d:=by
    by_cases hq:n.dot (dirT t)≤0
    · exact ⟨_,hq,hf⟩
    · refine ⟨V3.smul (-1) (dirT t),?_,?_⟩
      · have e:n.dot (V3.smul (-1) (dirT t))=- n.dot (dirT t):=by simp only [V3.dot,V3.smul];grind
        omega
      · intro f hfF hD
        obtain ⟨k1,k2,k3⟩:=hf f hfF hD
        rw [det3_neg,det3_neg,det3_neg]
        exact ⟨by omega,by omega,by omega⟩
  rw [windN_eq hg (half_off hg h) hfd]
  unfold windM
  refine fold_zero F (fun f hfF=>?_) 0
  obtain ⟨h1,h2,h3⟩:=h f hfF
  exact half_hit h1 h2 h3 hd
/-! the tetrahedron -/
def relB (a b c:Int):Bool:=!(decide (0 < a)&&decide (0 < b)&&decide (0 < c))&&!(decide (a < 0)&&decide (b < 0)&&decide (c < 0))
theorem relB_pos {x y z a b c:Int} (hx:0 < x) (hy:0 < y) (hz:0 < z) (h:x * a+y * b+z * c=0):relB a b c=true:=by
  unfold relB
  simp only [Bool.and_eq_true,Bool.not_eq_true',Bool.and_eq_false_iff,decide_eq_false_iff_not]
  refine ⟨?_,?_⟩
  · by_cases h1:0 < a
    · by_cases h2:0 < b
      · refine .inr (fun h3=>?_)
        have t1:=Int.mul_pos hx h1
        have t2:=Int.mul_pos hy h2
        have t3:=Int.mul_pos hz h3
        omega
      · exact .inl (.inr h2)
    · exact .inl (.inl h1)
  · by_cases h1:a < 0
    · by_cases h2:b < 0
      · refine .inr (fun h3=>?_)
        have t1:=Int.mul_neg_of_pos_of_neg hx h1
        have t2:=Int.mul_neg_of_pos_of_neg hy h2
        have t3:=Int.mul_neg_of_pos_of_neg hz h3
        omega
      · exact .inl (.inr h2)
    · exact .inl (.inl h1)
theorem relB_sign (a b c:Int):relB a.sign b.sign c.sign=relB a b c:=by
  unfold relB
  simp only [sign_lt,sign_gt]
theorem relB_of {x y z a b c s:Int} (hs:s∈S2) (hx:x.sign=s) (hy:y.sign=s) (hz:z.sign=s) (h:x * a+y * b+z * c=0):relB a.sign b.sign c.sign=true:=by
  rw [relB_sign]
  simp only [S2,List.mem_cons,List.not_mem_nil,or_false] at hs
  rcases hs with rfl|rfl
  · have h1:=Int.neg_of_sign_eq_neg_one hx
    have h2:=Int.neg_of_sign_eq_neg_one hy
    have h3:=Int.neg_of_sign_eq_neg_one hz
    exact relB_pos (x:=-x) (y:=-y) (z:=-z) (by omega) (by omega) (by omega) (by rw [Int.neg_mul,Int.neg_mul,Int.neg_mul];omega)
  · exact relB_pos (Int.pos_of_sign_eq_one hx) (Int.pos_of_sign_eq_one hy) (Int.pos_of_sign_eq_one hz) h
theorem core4:∀ s∈S2,∀ e1∈S2,∀ e2∈S2,∀ e3∈S2,∀ e4∈S2,∀ e5∈S2,∀ e6∈S2,relB e1 e2 e3=true→relB (-e1) e4 e5=true→relB (-e2) (-e4) e6=true→relB (-e3) (-e5) (-e6)=true →
    hitS s (-e4) (-e1) e2+hitS s e5 (-e3) e1+hitS s (-e6) (-e2) e3+hitS s e6 (-e5) e4=s:=by decide +kernel
def vol4 (a b c e:V3):Int:=det3 (b.sub a) (c.sub a) (e.sub a)
variable {a b c e p:V3}
theorem vol_sum:det3 (b.sub p) (c.sub p) (e.sub p)+det3 (a.sub p) (e.sub p) (c.sub p)+det3 (a.sub p) (b.sub p) (e.sub p)+det3 (a.sub p) (c.sub p) (b.sub p)=vol4 a b c e:=by
  simp only [vol4,det3,V3.dot,V3.cross,V3.sub];grind
theorem tet_hits (hg:Good [a,b,c,e] tetF) {s:Int} (hs:s∈S2) (h1:(det3 (b.sub p) (c.sub p) (e.sub p)).sign=s) (h2:(det3 (a.sub p) (e.sub p) (c.sub p)).sign=s) (h3:(det3 (a.sub p) (b.sub p) (e.sub p)).sign=s) (h4:(det3 (a.sub p) (c.sub p) (b.sub p)).sign=s) :
    onM axP [a,b,c,e] tetF p=false∧windN [a,b,c,e] tetF p=s:=by
  have hs0:s≠0:=by
    simp only [S2,List.mem_cons,List.not_mem_nil,or_false] at hs
    omega
  have n1:det3 (b.sub p) (c.sub p) (e.sub p)≠0:=sign_ne.1 (by rw [h1];exact hs0)
  have n2:det3 (a.sub p) (e.sub p) (c.sub p)≠0:=sign_ne.1 (by rw [h2];exact hs0)
  have n3:det3 (a.sub p) (b.sub p) (e.sub p)≠0:=sign_ne.1 (by rw [h3];exact hs0)
  have n4:det3 (a.sub p) (c.sub p) (b.sub p)≠0:=sign_ne.1 (by rw [h4];exact hs0)
  have hoff:onM axP [a,b,c,e] tetF p=false:=by
    cases ho:onM axP [a,b,c,e] tetF p with
    | false=>rfl
    | true =>
      obtain ⟨f,hf,x,y,z,hx,hy,hz,hsum,he⟩:=(onM_iff hg).1 ho
      exfalso
      obtain ⟨k1,k2,k3⟩:=comb_det he
      have hz0:∀ u v:V3,det3 V3.zero u v=0∧det3 u V3.zero v=0∧det3 u v V3.zero=0:=fun u v=>by
        simp only [det3,V3.dot,V3.cross,V3.zero];grind
      rw [(hz0 _ _).1] at k1
      rw [(hz0 _ _).2.1] at k2
      rw [(hz0 _ _).2.2] at k3
      have hne:det3 (relV [a,b,c,e] p f.x) (relV [a,b,c,e] p f.y) (relV [a,b,c,e] p f.z)≠0:=by
        simp only [tetF,List.mem_cons,List.not_mem_nil,or_false] at hf
        rcases hf with rfl|rfl|rfl|rfl
        · exact n4
        · exact n3
        · exact n2
        · exact n1
      have x0:=(Int.mul_eq_zero.1 k1.symm).resolve_right hne
      have y0:=(Int.mul_eq_zero.1 k2.symm).resolve_right hne
      have z0:=(Int.mul_eq_zero.1 k3.symm).resolve_right hne
      omega
  refine ⟨hoff,?_⟩
  obtain ⟨t,_,_,_,hf⟩:=goodT_some hg p
  rw [windN_eq hg hoff hf]
  generalize dirT t=d at hf
  have f0:det3 d (a.sub p) (c.sub p)≠0∧det3 d (c.sub p) (b.sub p)≠0∧det3 d (b.sub p) (a.sub p)≠0:=hf ⟨0,2,1⟩ (by decide) n4
  have f1:det3 d (a.sub p) (b.sub p)≠0∧det3 d (b.sub p) (e.sub p)≠0∧det3 d (e.sub p) (a.sub p)≠0:=hf ⟨0,1,3⟩ (by decide) n3
  have f3:det3 d (b.sub p) (c.sub p)≠0∧det3 d (c.sub p) (e.sub p)≠0∧det3 d (e.sub p) (b.sub p)≠0:=hf ⟨1,2,3⟩ (by decide) n1
  show (0:Int)+hit3 d (a.sub p) (c.sub p) (b.sub p)+hit3 d (a.sub p) (b.sub p) (e.sub p)+hit3 d (a.sub p) (e.sub p) (c.sub p)+hit3 d (b.sub p) (c.sub p) (e.sub p)=s
  generalize a.sub p=A at *
  generalize b.sub p=B at *
  generalize c.sub p=C at *
  generalize e.sub p=E at *
  have e3:det3 d E A=- det3 d A E:=det_swap d A E
  have g3:det3 d A E≠0:=by have:=f1.2.2;omega
  have r1:det3 A E C * det3 d A B+det3 A B E * det3 d A C+det3 A C B * det3 d A E=0:=by simp only [det3,V3.dot,V3.cross];grind
  have r2:det3 B C E * (- det3 d A B)+det3 A B E * det3 d B C+det3 A C B * det3 d B E=0:=by simp only [det3,V3.dot,V3.cross];grind
  have r3:det3 B C E * (- det3 d A C)+det3 A E C * (- det3 d B C)+det3 A C B * det3 d C E=0:=by simp only [det3,V3.dot,V3.cross];grind
  have r4:det3 B C E * (- det3 d A E)+det3 A E C * (- det3 d B E)+det3 A B E * (- det3 d C E)=0:=by simp only [det3,V3.dot,V3.cross];grind
  have q1:=relB_of hs h2 h3 h4 r1
  have q2:=relB_of hs h1 h3 h4 r2
  have q3:=relB_of hs h1 h2 h4 r3
  have q4:=relB_of hs h1 h2 h3 r4
  have key:=core4 s hs _ (sign_S2 f1.1) _ (sign_S2 f0.1) _ (sign_S2 g3) _ (sign_S2 f3.1) _ (sign_S2 f1.2.1) _ (sign_S2 f3.2.1) q1 (by rw [← Int.sign_neg];exact q2) (by rw [← Int.sign_neg,← Int.sign_neg];exact q3) (by rw [← Int.sign_neg,← Int.sign_neg,← Int.sign_neg];exact q4)
  unfold hit3
  rw [hitS_sign,hitS_sign (det3 A B E),hitS_sign (det3 A E C),hitS_sign (det3 B C E),h1,h2,h3,h4,det_swap d B C,det_swap d A B,det_swap d A E,det_swap d A C,det_swap d B E,det_swap d C E]
  simp only [Int.sign_neg]
  omega
theorem half4 {n:V3} (h1:0 < n.dot (a.sub p)) (h2:0 < n.dot (b.sub p)) (h3:0 < n.dot (c.sub p)) (h4:0 < n.dot (e.sub p)):HalfF [a,b,c,e] tetF p n:=by
  intro f hf
  simp only [tetF,List.mem_cons,List.not_mem_nil,or_false] at hf
  rcases hf with rfl|rfl|rfl|rfl
  · exact ⟨h1,h3,h2⟩
  · exact ⟨h1,h2,h4⟩
  · exact ⟨h1,h4,h3⟩
  · exact ⟨h2,h3,h4⟩
theorem nrm_dots (x y z w:V3):(nrm x y z).dot x=det3 x y z∧(nrm x y z).dot y=det3 x y z∧(nrm x y z).dot z=det3 x y z:=by
  refine ⟨?_,?_,?_⟩<;>simp only [nrm,det3,V3.dot,V3.cross,V3.sub]<;>grind
theorem scal_dot (k:Int) (u v:V3):(V3.smul k u).dot v=k * u.dot v:=by
  simp only [V3.smul,V3.dot];grind
theorem side_half {x y z w:V3} {D V:Int} (hD:D=det3 x y z) (hw:(nrm x y z).dot w=D - V) (h:D * V < 0) :
    0 < (V3.smul (-V) (nrm x y z)).dot x∧0 < (V3.smul (-V) (nrm x y z)).dot y∧0 < (V3.smul (-V) (nrm x y z)).dot z∧0 < (V3.smul (-V) (nrm x y z)).dot w:=by
  obtain ⟨e1,e2,e3⟩:=nrm_dots x y z w
  rw [scal_dot,scal_dot,scal_dot,scal_dot,e1,e2,e3,hw,← hD]
  have t:0≤V * V:=by
    rcases Int.le_total 0 V with q|q
    · exact Int.mul_nonneg q q
    · exact Int.mul_nonneg_of_nonpos_of_nonpos q q
  have t1:-V * D=-(D * V):=by grind
  have t2:-V * (D - V)=V * V - D * V:=by grind
  rw [t1,t2]
  omega
theorem tet_half {V:Int} (hV:V=vol4 a b c e) (h:det3 (b.sub p) (c.sub p) (e.sub p) * V < 0∨det3 (a.sub p) (e.sub p) (c.sub p) * V < 0∨det3 (a.sub p) (b.sub p) (e.sub p) * V < 0∨det3 (a.sub p) (c.sub p) (b.sub p) * V < 0) :
    ∃ n,HalfF [a,b,c,e] tetF p n:=by
  have hs:=vol_sum (a:=a) (b:=b) (c:=c) (e:=e) (p:=p)
  rw [← hV] at hs
  rcases h with h|h|h|h
  · obtain ⟨h1,h2,h3,h4⟩:=side_half (w:=a.sub p) rfl (by rw [← hs];simp only [nrm,det3,V3.dot,V3.cross,V3.sub];grind) h
    exact ⟨_,half4 h4 h1 h2 h3⟩
  · obtain ⟨h1,h2,h3,h4⟩:=side_half (w:=b.sub p) rfl (by rw [← hs];simp only [nrm,det3,V3.dot,V3.cross,V3.sub];grind) h
    exact ⟨_,half4 h1 h4 h3 h2⟩
  · obtain ⟨h1,h2,h3,h4⟩:=side_half (w:=c.sub p) rfl (by rw [← hs];simp only [nrm,det3,V3.dot,V3.cross,V3.sub];grind) h
    exact ⟨_,half4 h1 h2 h4 h3⟩
  · obtain ⟨h1,h2,h3,h4⟩:=side_half (w:=e.sub p) rfl (by rw [← hs];simp only [nrm,det3,V3.dot,V3.cross,V3.sub];grind) h
    exact ⟨_,half4 h1 h3 h2 h4⟩
theorem tet_on (hg:Good [a,b,c,e] tetF) {s:Int} (hs:s * s=1)
    (h1:0≤s * det3 (b.sub p) (c.sub p) (e.sub p)) (h2:0≤s * det3 (a.sub p) (e.sub p) (c.sub p)) (h3:0≤s * det3 (a.sub p) (b.sub p) (e.sub p)) (h4:0≤s * det3 (a.sub p) (c.sub p) (b.sub p))
    (hz:det3 (b.sub p) (c.sub p) (e.sub p)=0∨det3 (a.sub p) (e.sub p) (c.sub p)=0∨det3 (a.sub p) (b.sub p) (e.sub p)=0∨det3 (a.sub p) (c.sub p) (b.sub p)=0) (hV:0 < s * vol4 a b c e) :
    onM axP [a,b,c,e] tetF p=true:=by
  rw [← vol_sum (p:=p)] at hV
  refine (onM_iff hg).2 ?_
  have hc:cmb3 (det3 (b.sub p) (c.sub p) (e.sub p)) (det3 (a.sub p) (e.sub p) (c.sub p)) (det3 (a.sub p) (b.sub p) (e.sub p)) (a.sub p) (b.sub p) (c.sub p)=V3.smul (-(det3 (a.sub p) (c.sub p) (b.sub p))) (e.sub p):=by
    simp only [cmb3,V3.smul,det3,V3.dot,V3.cross,V3.mk.injEq];refine ⟨?_,?_,?_⟩<;>grind
  generalize hd1:det3 (b.sub p) (c.sub p) (e.sub p)=d1 at *
  generalize hd2:det3 (a.sub p) (e.sub p) (c.sub p)=d2 at *
  generalize hd3:det3 (a.sub p) (b.sub p) (e.sub p)=d3 at *
  generalize hd4:det3 (a.sub p) (c.sub p) (b.sub p)=d4 at *
  have hm:s * (d1+d2+d3+d4)=s * d1+s * d2+s * d3+s * d4:=by grind
  rw [hm] at hV
  simp only [cmb3,V3.smul,V3.mk.injEq] at hc
  obtain ⟨c1,c2,c3⟩:=hc
  rcases hz with hz|hz|hz|hz
  · subst hz
    refine ⟨⟨1,2,3⟩,by decide,s * d2,s * d3,s * d4,h2,h3,h4,by omega,?_⟩
    show cmb3 _ _ _ (b.sub p) (c.sub p) (e.sub p)=_
    simp only [cmb3,V3.zero,V3.mk.injEq]
    refine ⟨?_,?_,?_⟩<;>grind
  · subst hz
    refine ⟨⟨0,3,2⟩,by decide,s * d1,s * d4,s * d3,h1,h4,h3,by omega,?_⟩
    show cmb3 _ _ _ (a.sub p) (e.sub p) (c.sub p)=_
    simp only [cmb3,V3.zero,V3.mk.injEq]
    refine ⟨?_,?_,?_⟩<;>grind
  · subst hz
    refine ⟨⟨0,1,3⟩,by decide,s * d1,s * d2,s * d4,h1,h2,h4,by omega,?_⟩
    show cmb3 _ _ _ (a.sub p) (b.sub p) (e.sub p)=_
    simp only [cmb3,V3.zero,V3.mk.injEq]
    refine ⟨?_,?_,?_⟩<;>grind
  · subst hz
    refine ⟨⟨0,2,1⟩,by decide,s * d1,s * d3,s * d2,h1,h3,h2,by omega,?_⟩
    show cmb3 _ _ _ (a.sub p) (c.sub p) (b.sub p)=_
    simp only [cmb3,V3.zero,V3.mk.injEq]
    refine ⟨?_,?_,?_⟩<;>grind
end Go.Sx
