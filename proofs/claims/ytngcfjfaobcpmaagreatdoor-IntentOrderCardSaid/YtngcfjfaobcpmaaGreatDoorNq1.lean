/- Plain: two colors on one ray from a common anchor, compressed. -/
import Derived.Test.YtngcfjfaobcpmaaGreatDoorNp1
set_option maxHeartbeats 1000000
namespace Go.Sx
open Go
variable {P F:List V3} {p q c v:V3} {k m n n':Int}
theorem Zq1 {a b:Int} (h:0≤a∧a≤255) (k:-128≤b∧b≤127):-163200≤a * (5 * b)∧a * (5 * b)≤163200:=by
 have h1:=Int.mul_le_mul_of_nonneg_left (show 5 * b≤640 by omega) h.1
 have h2:=Int.mul_le_mul_of_nonneg_left (show -640≤5 * b by omega) h.1
 generalize a * (5 * b)=x at *
 omega
theorem Z41 (hg:Good P F) (h:extO P F=none):axisW P F=(0,0,4):=by unfold axisW;rw [if_neg (fun k=>k (Yga.2 hg)),h]
theorem Z40 {l h:Int} (hg:Good P F) (he:extO P F=some (l,h)):axisW P F=(l,h,0):=by unfold axisW;rw [if_neg (fun k=>k (Yga.2 hg)),he]
theorem Z46 {l h:Int} (he:extO P F=some (l,h)) (ha:anchorO P F p=some c):c=anchorV l h p:=by
 unfold anchorO at ha
 rw [he] at ha
 simp only [Option.bind_some] at ha
 split at ha
 ·exact (Option.some.inj ha).symm
 ·cases ha
theorem Zzy (hg:Good P F) (hc:isFar c=false) (h2c:(sideW P F c).1=2) (hv:v≠V3.zero) {t:Rat} {j:Nat} (hr:rayM metP P F c (c.plus v) true=some (t,j)) (hn:0≤n∧n≤255) (hn':0≤n'∧n'≤255)
  (hpe:p=c.plus (V3.smul n v)) (hqe:q=c.plus (V3.smul n' v)) (hp:isFar p=false) (hq:isFar q=false) (ha:anchorO P F p=some c) (hb:anchorO P F q=some c) (h0:0≤k) (h1:k < 1000) (h2:1000 < m) (h3:m≤10000) :
  ∃ u u',Fit 300 u∧Fit 300 u'∧compressW P F p k m=.inr (atQ c (c.plus v) u)∧compressW P F q k m=.inr (atQ c (c.plus v) u')∧(p=c↔n=0)∧(q=c↔n'=0)∧(n=0→u=0)∧(n'=0→u'=0) ∧
    (0 < n→0 < n'→(n < n'→u≤u')∧(n' < n→u'≤u)∧(n=n'→u=u')∧(n≠n'→u=u'→u=t)) ∧
    (0 < n→0 < k→qI (1000 * n) k≤t→atQ c (c.plus v) u=exactQ p):=by
 have s1:(c.plus v).sub c=v:=by rw [Za2];simp only [V3.plus,V3.sub];omega
 have n1:c≠c.plus v:=fun e=>hv (by rw [← s1,← e];simp [V3.sub,V3.zero])
 have ht:=Zrg hg hc h2c n1 hr
 have hpc:∀ i:Int,c.plus (V3.smul i v)=c↔i=0:=fun i=>by
  constructor
  ·intro e
   rcases Decidable.em (i=0) with h|h
   ·exact h
   ·exfalso
    have s2:(c.plus (V3.smul i v)).sub c=V3.smul i v:=by rw [Za2];simp only [V3.plus,V3.sub];omega
    exact Zm5 h hv (by rw [← s2,e];simp [V3.sub,V3.zero])
  ·rintro rfl;exact Zf6 c v
 subst hpe hqe
 obtain ⟨u,hu,hcu,hu0,hun,hkn⟩:=Zs9 hg hc h2c hv hr hn hp ha h0 h1 h2 h3
 obtain ⟨u',hu',hcu',hu0',hun',_⟩:=Zs9 hg hc h2c hv hr hn' hq hb h0 h1 h2 h3
 refine ⟨u,u',hu,hu',hcu,hcu',hpc n,hpc n',hu0,hu0',fun a b=>?_,fun a b d=>?_⟩
 ·rw [hun a,hun' b]
  refine ⟨fun h=>(Zj5 h0 h1 h2 a h ht).1,fun h=>(Zj5 h0 h1 h2 b h ht).1,fun h=>by rw [h],fun h e=>?_⟩
  rcases Int.lt_or_gt_of_ne h with h|h
  ·exact (Zj5 h0 h1 h2 a h ht).2 e
  ·rw [e];exact (Zj5 h0 h1 h2 b h ht).2 e.symm
 ·have:=hkn a b d
  rw [hcu] at this
  exact Sum.inr.inj this
end Go.Sx
