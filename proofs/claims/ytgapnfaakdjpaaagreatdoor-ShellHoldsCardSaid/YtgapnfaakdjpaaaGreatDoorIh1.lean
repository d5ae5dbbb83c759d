/- Plain: a mesh winds round a point from which one of its faces is seen that no other face hides. -/
import Derived.Test.YtgapnfaakdjpaaaGreatDoorIm1
namespace Go.Sx
open Go
theorem hit_cone {d a b c:V3} (h:hit3 d a b c≠0):∃ D x y z:Int,0 < D∧0 < x∧0 < y∧0 < z∧∀ w:V3,D * w.dot d=x * w.dot a+y * w.dot b+z * w.dot c:=by
  unfold hit3 hitS at h
  by_cases hc:det3 a b c≠0∧(det3 d b c).sign=(det3 a b c).sign∧(det3 d c a).sign=(det3 a b c).sign∧(det3 d a b).sign=(det3 a b c).sign
  · obtain ⟨hD,h1,h2,h3⟩:=hc
    have e:∀ w:V3,det3 a b c * w.dot d=det3 d b c * w.dot a+det3 d c a * w.dot b+det3 d a b * w.dot c:=fun w=>by
      simp only [det3,V3.dot,V3.cross];grind
    rcases Int.lt_or_gt_of_ne hD with q|q
    · have g:(det3 a b c).sign=-1:=Int.sign_eq_neg_one_of_neg q
      rw [g] at h1 h2 h3
      have t1:=Int.neg_of_sign_eq_neg_one h1
      have t2:=Int.neg_of_sign_eq_neg_one h2
      have t3:=Int.neg_of_sign_eq_neg_one h3
      refine ⟨-det3 a b c,-det3 d b c,-det3 d c a,-det3 d a b,by omega,by omega,by omega,by omega,fun w=>?_⟩
      have:=e w
      rw [Int.neg_mul,Int.neg_mul,Int.neg_mul,Int.neg_mul]
      omega
    · have g:(det3 a b c).sign=1:=Int.sign_eq_one_of_pos q
      rw [g] at h1 h2 h3
      exact ⟨_,_,_,_,q,Int.pos_of_sign_eq_one h1,Int.pos_of_sign_eq_one h2,Int.pos_of_sign_eq_one h3,e⟩
  · rw [if_neg hc] at h
    exact absurd rfl h
def Sep (w a b c a' b' c':V3):Prop:=(w.dot a≤0∧w.dot b≤0∧w.dot c≤0)∧(w.dot a < 0∨w.dot b < 0∨w.dot c < 0)∧0≤w.dot a'∧0≤w.dot b'∧0≤w.dot c'
theorem sep_hit {w d a b c a' b' c':V3} (hs:Sep w a b c a' b' c') (h:hit3 d a b c≠0):hit3 d a' b' c'=0:=by
  refine Classical.byContradiction fun h'=>?_
  obtain ⟨D,x,y,z,hD,hx,hy,hz,e⟩:=hit_cone h
  obtain ⟨D',x',y',z',hD',hx',hy',hz',e'⟩:=hit_cone h'
  obtain ⟨⟨s1,s2,s3⟩,s4,s5,s6,s7⟩:=hs
  have e:=e w
  have e':=e' w
  generalize w.dot a=A at *
  generalize w.dot b=B at *
  generalize w.dot c=C at *
  generalize w.dot a'=A' at *
  generalize w.dot b'=B' at *
  generalize w.dot c'=C' at *
  generalize w.dot d=K at *
  have k1:=Int.mul_nonneg (Int.le_of_lt hx') s5
  have k2:=Int.mul_nonneg (Int.le_of_lt hy') s6
  have k3:=Int.mul_nonneg (Int.le_of_lt hz') s7
  have j1:=Int.mul_nonpos_of_nonneg_of_nonpos (Int.le_of_lt hx) s1
  have j2:=Int.mul_nonpos_of_nonneg_of_nonpos (Int.le_of_lt hy) s2
  have j3:=Int.mul_nonpos_of_nonneg_of_nonpos (Int.le_of_lt hz) s3
  have j4:x * A < 0∨y * B < 0∨z * C < 0:=by
    rcases s4 with s|s|s
    · exact .inl (Int.mul_neg_of_pos_of_neg hx s)
    · exact .inr (.inl (Int.mul_neg_of_pos_of_neg hy s))
    · exact .inr (.inr (Int.mul_neg_of_pos_of_neg hz s))
  have i1:D * K < 0:=by omega
  have i2:0≤D' * K:=by omega
  rcases Int.lt_or_le K 0 with q|q
  · have:=Int.mul_neg_of_pos_of_neg hD' q;omega
  · have:=Int.mul_nonneg (Int.le_of_lt hD) q;omega
theorem fold_pick {g:V3→Int} {f0:V3}:∀ (F:List V3),(∀ f∈F,f≠f0→g f=0)→∀ s,F.foldl (fun s f=>s+g f) s=s+(F.count f0:Int) * g f0
  | [],_,s=>by simp
  | f :: F,h,s=>by
    rw [List.foldl_cons,fold_pick F (fun x hx=>h x (List.mem_cons_of_mem _ hx)),List.count_cons]
    by_cases hf:f=f0
    · subst hf
      rw [if_pos (by simp)]
      push_cast
      rw [Int.add_mul,Int.one_mul]
      omega
    · rw [h f List.mem_cons_self hf,if_neg (by simpa using hf)]
      simp
theorem det_mid (a b c:V3):det3 ((a.plus b).plus c) b c=det3 a b c∧det3 ((a.plus b).plus c) c a=det3 a b c∧det3 ((a.plus b).plus c) a b=det3 a b c:=by
  simp only [det3,V3.dot,V3.cross,V3.plus]
  refine ⟨?_,?_,?_⟩<;>grind
theorem one_hit {P F:List V3} (hg:Good P F) {p f0:V3} (ho:onM axP P F p=false) (hf0:f0∈F) (hD:det3 (relV P p f0.x) (relV P p f0.y) (relV P p f0.z)≠0)
    (hs:∀ f∈F,f≠f0→∃ w,Sep w (relV P p f0.x) (relV P p f0.y) (relV P p f0.z) (relV P p f.x) (relV P p f.y) (relV P p f.z)):windN P F p≠0:=by
  obtain ⟨T,hT⟩:=dir_all (norms P F p)
  have hT:=hT (T+1) (by omega)
  obtain ⟨M,hM⟩:=next_all (dirT (T+1)) (norms P F p)
  obtain ⟨d,hd⟩:∃ d,d=nextTo (((relV P p f0.x).plus (relV P p f0.y)).plus (relV P p f0.z)) (dirT (T+1)) (M+1):=⟨_,rfl⟩
  have hN:∀ n∈norms P F p,((dirT (T+1)).dot n).natAbs < M+1:=fun n hn=>Nat.lt_succ_of_le (hM n hn)
  have hcl:∀ f∈F,ClearF P p d f:=by rw [hd];exact clear_next hT hN
  have hfine:Fine P F p d:=by
    intro f hf h
    obtain ⟨c1,c2,c3⟩:=cross_ne h
    obtain ⟨k1,k2,k3⟩:=hcl f hf
    exact ⟨k1 c1,k2 c2,k3 c3⟩
  rw [windN_eq hg ho hfine]
  obtain ⟨m1,m2,m3⟩:=norms_mem (P:=P) (p:=p) hf0
  have key:∀ {u v:V3},u.cross v∈norms P F p→det3 (((relV P p f0.x).plus (relV P p f0.y)).plus (relV P p f0.z)) u v≠0→(det3 d u v).sign=(det3 (((relV P p f0.x).plus (relV P p f0.y)).plus (relV P p f0.z)) u v).sign:=fun {u v} hm h0=>by
    rw [hd]
    unfold det3 at h0 ⊢
    rw [next_dot]
    exact next_sign h0 (hN _ hm)
  obtain ⟨e1,e2,e3⟩:=det_mid (relV P p f0.x) (relV P p f0.y) (relV P p f0.z)
  have g1:=key m2 (by rw [e1];exact hD)
  have g2:=key m3 (by rw [e2];exact hD)
  have g3:=key m1 (by rw [e3];exact hD)
  rw [e1] at g1
  rw [e2] at g2
  rw [e3] at g3
  have hhit:hitF P p d f0=(det3 (relV P p f0.x) (relV P p f0.y) (relV P p f0.z)).sign:=by
    unfold hitF hit3 hitS
    rw [if_pos ⟨hD,g1,g2,g3⟩]
  have hne:hitF P p d f0≠0:=by rw [hhit];exact sign_ne.2 hD
  unfold windM
  rw [fold_pick (g:=hitF P p d) (f0:=f0) F (fun f hf hff=>by
    obtain ⟨w,hw⟩:=hs f hf hff
    exact sep_hit hw hne),Int.zero_add]
  have hc:0 < F.count f0:=List.count_pos_iff.2 hf0
  exact Int.mul_ne_zero (by omega) hne
theorem off_of {P F:List V3} (hg:Good P F) {p:V3} (h:∀ f∈F,∃ w:V3,0 < w.dot (relV P p f.x)∧0 < w.dot (relV P p f.y)∧0 < w.dot (relV P p f.z)):onM axP P F p=false:=by
  cases ho:onM axP P F p with
  | false=>rfl
  | true =>
    obtain ⟨f,hf,x,y,z,hx,hy,hz,hs,he⟩:=(onM_iff hg).1 ho
    obtain ⟨w,h1,h2,h3⟩:=h f hf
    exfalso
    generalize relV P p f.x=a at *
    generalize relV P p f.y=b at *
    generalize relV P p f.z=c at *
    have e:x * w.dot a+y * w.dot b+z * w.dot c=0:=by
      simp only [cmb3,V3.zero,V3.mk.injEq] at he
      simp only [V3.dot]
      grind
    have k1:=Int.mul_nonneg hx (Int.le_of_lt h1)
    have k2:=Int.mul_nonneg hy (Int.le_of_lt h2)
    have k3:=Int.mul_nonneg hz (Int.le_of_lt h3)
    rcases Int.lt_or_eq_of_le hx with q|q
    · have:=Int.mul_pos q h1;omega
    rcases Int.lt_or_eq_of_le hy with q'|q'
    · have:=Int.mul_pos q' h2;omega
    have q'':0 < z:=by omega
    have:=Int.mul_pos q'' h3;omega
theorem corner_on {P F:List V3} (hg:Good P F) {p f:V3} (hf:f∈F) (h:ptAt P f.x=p∨ptAt P f.y=p∨ptAt P f.z=p):onM axP P F p=true:=by
  refine (onM_iff hg).2 ⟨f,hf,?_⟩
  have z:p.sub p=V3.zero:=by simp [V3.sub,V3.zero]
  unfold OnI relV
  rcases h with h|h|h
  · refine ⟨1,0,0,by decide,by decide,by decide,by decide,?_⟩
    rw [h,z];simp [cmb3,V3.zero]
  · refine ⟨0,1,0,by decide,by decide,by decide,by decide,?_⟩
    rw [h,z];simp [cmb3,V3.zero]
  · refine ⟨0,0,1,by decide,by decide,by decide,by decide,?_⟩
    rw [h,z];simp [cmb3,V3.zero]
end Go.Sx
