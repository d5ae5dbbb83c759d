/- Walks: the reference on curves: which are valid, their values. -/
import Derived.Test.YtoednejlfbfciaaGreatDoorKc3
import Derived.Test.YtoednejlfbfciaaGreatDoorKr2
set_option maxHeartbeats 1000000
namespace Go.Sx
open Go
theorem Zt1 {a b:Int} {k:Nat} (ha:1≤a) (hb:1≤b) (hno:∀ j:Nat,2≤j→j < k→¬ (a % j=0∧b % j=0)) (hk:¬ ((k:Int)≤a∧(k:Int)≤b)):Int.gcd a b=1:=by
 have h1:Int.gcd a b ∣ a.natAbs:=Nat.gcd_dvd_left a.natAbs b.natAbs
 have h2:Int.gcd a b ∣ b.natAbs:=Nat.gcd_dvd_right a.natAbs b.natAbs
 have l1:=Nat.le_of_dvd (by omega) h1
 have l2:=Nat.le_of_dvd (by omega) h2
 have l0:0 < Int.gcd a b:=Int.gcd_pos_of_ne_zero_left _ (by omega)
 rcases Nat.lt_or_ge (Int.gcd a b) 2 with h|h
 ·omega
 ·exact absurd ⟨Int.emod_eq_zero_of_dvd (Int.gcd_dvd_left ..),Int.emod_eq_zero_of_dvd (Int.gcd_dvd_right ..)⟩ (hno _ h (by omega))
theorem Zrg {a b:Int} {k:Nat} (h2:2≤k) (h:a % k=0∧b % k=0):¬ Int.gcd a b=1:=by
 intro hg
 have hd:(k:Int) ∣ (Int.gcd a b:Int):=Int.dvd_coe_gcd (Int.dvd_of_emod_eq_zero h.1) (Int.dvd_of_emod_eq_zero h.2)
 rw [hg] at hd
 have:=Int.le_of_dvd (by decide) hd
 omega
def ordTo (ss:List Seg) (k:Nat):Prop:=∀ j < k,∀ s,ss[j]?=some s→s.fine∧fromI ss j < s.till
theorem Zq0 {ss:List Seg} {k:Nat} {s:Seg} (h:ordTo ss k) (hs:ss[k]?=some s) (hk:s.fine∧fromI ss k < s.till):ordTo ss (k+1):=by
 intro j hj t ht
 rcases Nat.lt_or_ge j k with h1|h1
 ·exact h j h1 t ht
 ·have e:j=k:=by omega
  subst e
  rw [hs] at ht
  rw [← Option.some.inj ht];exact hk
theorem Zpm {ss:List Seg} {n:Nat} (hn:n≤ss.length) (h:ordTo ss n):∀ {d k:Nat},k+d=n→fromI ss k≤fromI ss n
 | 0,k,e=>by rw [show k=n by omega];exact Int.le_refl _
 | d+1,k,e=>by
  obtain ⟨s,hs⟩:∃ s,ss[k]?=some s:=⟨_,List.getElem?_eq_getElem (by omega)⟩
  have h1:=(h k (by omega) s hs).2
  have h2:=Zpm hn h (d:=d) (k:=k+1) (by omega)
  rw [Zce hs] at h2
  omega
theorem Zyl {ss:List Seg}:ordTo ss ss.length∧fromI ss ss.length=1000000↔segsFrom 0 ss:=by
 rw [Zvx]
 constructor
 ·rintro ⟨h,e⟩
  refine ⟨fun j hj s hs=>⟨(h j hj s hs).1,(h j hj s hs).2,?_⟩,e⟩
  have h1:=Zpm (Nat.le_refl _) h (d:=ss.length - (j+1)) (k:=j+1) (by omega)
  rw [Zce hs,e] at h1
  exact h1
 ·rintro ⟨h,e⟩
  exact ⟨fun j hj s hs=>⟨(h j hj s hs).1,(h j hj s hs).2.1⟩,e⟩
end Go.Sx
namespace Go.Proofs.YtoednejlfbfciaaGreatDoor
open Go Go.Sx
variable {w0:World} {As:List Ent} {kv:Int} {tv sv:Value} {tab:List Int} {ss:List Seg}
theorem Zbk {n l h:Int}:CQ Tryz.prog w0 69 [.int .i64 n,.int .i64 l,.int .i64 h] As (.bool (decide (l≤n∧n≤h))):=by
 refine Zab Tryz.func69 rfl Tryz.ntmps69 rfl ?_
 by_cases h0:l≤n
 ·repeat' first|refine Kz ?_|intro _
  (refine Zac ?_)
  exact ⟨_,⟨by simp [h0],rfl⟩,Zaa⟩
 ·repeat' first|refine Kz ?_|intro _
  (refine Zac ?_)
  exact ⟨_,⟨by simp [h0],rfl⟩,Zaa⟩
theorem Zim {a b:Int} (ha:1≤a∧a≤100) (hb:1≤b∧b≤100):CQ Tryz.prog w0 45 [.int .i64 a,.int .i64 b] As (.bool (decide (¬ Int.gcd a b=1))):=by
 refine Zab Tryz.func45 rfl Tryz.ntmps45 rfl ?_
 repeat' first|refine Kz ?_|intro _
 refine Tri.loop (ι:=Nat) (fun k=>2≤k∧k≤101∧∀ j:Nat,2≤j→j < k→¬ (a % j=0∧b % j=0)) (fun k=>101 - k) (fun k=>[(0,.int .i64 a),(1,.int .i64 b),(5,.int .i64 k)]) (fun _=>As) 2 ⟨by omega,by omega,fun j h1 h2=>by omega⟩ Zae Zaa ?_
 intro k ⟨hk2,hk1,hno⟩
 have hk0:(k:Int)≠0:=by omega
 by_cases hin:(k:Int)≤a∧(k:Int)≤b
 ·obtain ⟨i1,i2⟩:=hin
  by_cases h1:a % (k:Int)=0
  ·by_cases h2:b % (k:Int)=0
   ·repeat' first|refine Kz ?_|intro _
    (refine Zac ?_)
    exact ⟨_,⟨by rw [decide_eq_true (Zrg hk2 ⟨h1,h2⟩)],rfl⟩,Zaa⟩
   ·repeat' first|refine Kz ?_|intro _
    exact Post.round (k+1) ⟨by omega,by omega,fun j h3 h4=>by rcases Nat.lt_or_ge j k with h5|h5;exact hno j h3 h5;rw [show j=k by omega];exact fun h=>h2 h.2⟩ (by omega) Zae Zaa
  ·repeat' first|refine Kz ?_|intro _
   exact Post.round (k+1) ⟨by omega,by omega,fun j h3 h4=>by rcases Nat.lt_or_ge j k with h5|h5;exact hno j h3 h5;rw [show j=k by omega];exact fun h=>h1 h.1⟩ (by omega) Zae Zaa
 ·have hg:=Zt1 ha.1 hb.1 hno hin
  by_cases i1:(k:Int)≤a
  ·have i2:¬ (k:Int)≤b:=fun h=>hin ⟨i1,h⟩
   repeat' first|refine Kz ?_|intro _
   (refine Zac ?_)
   exact ⟨_,⟨by rw [decide_eq_false (fun g=>g hg)],rfl⟩,Zaa⟩
  ·repeat' first|refine Kz ?_|intro _
   (refine Zac ?_)
   exact ⟨_,⟨by rw [decide_eq_false (fun g=>g hg)],rfl⟩,Zaa⟩
set_option maxRecDepth 100000 in
theorem Zl4 {s:Seg}:CQ Tryz.prog w0 70 [.agg #[.int .i64 s.till,.int .i64 s.mul,.int .i64 s.add,.int .i64 s.num,.int .i64 s.den,.int .i64 s.off]] As (.bool (decide s.fine)):=by
 refine Zab Tryz.func70 rfl Tryz.ntmps70 rfl ?_
 repeat' first|refine Kz ?_|intro _
 refine Ks rfl (Zbk) ?_
 by_cases h0:-100000000≤s.mul∧s.mul≤100000000
 case neg =>
  rw [decide_eq_false h0]
  repeat' first|refine Kz ?_|intro _
  (refine Zac ?_)
  exact ⟨_,⟨by rw [decide_eq_false (fun g=>h0 (g.1))],rfl⟩,Zaa⟩
 rw [decide_eq_true h0]
 repeat' first|refine Kz ?_|intro _
 refine Ks rfl (Zbk) ?_
 by_cases h1:-100000000≤s.add∧s.add≤100000000
 case neg =>
  rw [decide_eq_false h1]
  repeat' first|refine Kz ?_|intro _
  (refine Zac ?_)
  exact ⟨_,⟨by rw [decide_eq_false (fun g=>h1 (g.2.1))],rfl⟩,Zaa⟩
 rw [decide_eq_true h1]
 repeat' first|refine Kz ?_|intro _
 refine Ks rfl (Zbk) ?_
 by_cases h2:-100000000≤s.off∧s.off≤100000000
 case neg =>
  rw [decide_eq_false h2]
  repeat' first|refine Kz ?_|intro _
  (refine Zac ?_)
  exact ⟨_,⟨by rw [decide_eq_false (fun g=>h2 (g.2.2.1))],rfl⟩,Zaa⟩
 rw [decide_eq_true h2]
 repeat' first|refine Kz ?_|intro _
 refine Ks rfl (Zbk) ?_
 by_cases h3:1≤s.num∧s.num≤36
 case neg =>
  rw [decide_eq_false h3]
  repeat' first|refine Kz ?_|intro _
  (refine Zac ?_)
  exact ⟨_,⟨by rw [decide_eq_false (fun g=>h3 (g.2.2.2.1))],rfl⟩,Zaa⟩
 rw [decide_eq_true h3]
 repeat' first|refine Kz ?_|intro _
 refine Ks rfl (Zbk) ?_
 by_cases h4:1≤s.den∧s.den≤12
 case neg =>
  rw [decide_eq_false h4]
  repeat' first|refine Kz ?_|intro _
  (refine Zac ?_)
  exact ⟨_,⟨by rw [decide_eq_false (fun g=>h4 (g.2.2.2.2.1))],rfl⟩,Zaa⟩
 rw [decide_eq_true h4]
 repeat' first|refine Kz ?_|intro _
 refine Ks rfl (Zim (a:=s.num) (b:=s.den) (by omega) (by omega)) ?_
 by_cases h5:Int.gcd s.num s.den=1
 ·rw [decide_eq_false (fun g=>g h5)]
  repeat' first|refine Kz ?_|intro _
  (refine Zac ?_)
  exact ⟨_,⟨by rw [decide_eq_true (show s.fine from ⟨h0,h1,h2,h3,h4,h5⟩)];rfl,rfl⟩,Zaa⟩
 ·rw [decide_eq_true h5]
  repeat' first|refine Kz ?_|intro _
  (refine Zac ?_)
  exact ⟨_,⟨by rw [decide_eq_false (fun g:s.fine=>h5 g.2.2.2.2.2)];rfl,rfl⟩,Zaa⟩
set_option maxRecDepth 100000 in
set_option maxHeartbeats 2000000 in
theorem Zgj [RdIn As tv Int (cI .i64) tab] [RdIn As sv Seg cSeg ss] (hl:tab.length≤1000000000) (hl':ss.length≤1000000000):CQ Tryz.prog w0 49 [.agg #[.int .i64 kv,tv,sv]] As (.bool (decide (Crv.ok ⟨kv,tab,ss⟩))):=by
 refine Zad tv fun p0 c0 e0=>Zad sv fun p1 c1 e1=>?_
 subst e0 e1
 refine Zab Tryz.func49 rfl Tryz.ntmps49 rfl ?_
 by_cases k1:kv=1
 ·subst k1
  by_cases h0:tab.length=0
  ·by_cases h1:ss.length=0
   ·repeat' first|refine Kz ?_|intro _
    (refine Zac ?_)
    exact ⟨_,⟨by rw [decide_eq_true (crv1.2 ⟨h0,h1⟩)];simp [h1],rfl⟩,Zaa⟩
   ·repeat' first|refine Kz ?_|intro _
    (refine Zac ?_)
    exact ⟨_,⟨by rw [decide_eq_false (fun g=>h1 (crv1.1 g).2)];simp [h1],rfl⟩,Zaa⟩
  ·repeat' first|refine Kz ?_|intro _
   (refine Zac ?_)
   exact ⟨_,⟨by rw [decide_eq_false (fun g=>h0 (crv1.1 g).1)],rfl⟩,Zaa⟩
 by_cases k2:kv=2
 ·subst k2
  repeat' first|refine Kz ?_|intro _
  rename_i b1
  refine Tri.loop (ι:=Nat) (fun k=>k≤tab.length∧inW 65535 (tab.take k)) (fun k=>tab.length - k) (fun k=>[(1,.pointer (some ⟨b1,0,none⟩)),(3,.int .i64 k)]) (fun _=>.cl b1 [.int .i64 2,.slice p0 tab.length c0,.slice p1 ss.length c1] 25::As) 0 ⟨by omega,fun _ h=>by simp at h⟩ Zae Zaa ?_
  intro k ⟨hk,hf⟩
  repeat' first|refine Kz ?_|intro _
  (refine Kx (fun hc=>?_) fun hc=>?_)
  ·obtain ⟨p,hp⟩:∃ p,tab[k]?=some p:=⟨_,List.getElem?_eq_getElem (by omega)⟩
   have hm:=List.mem_of_getElem? hp
   repeat' first|refine Kz ?_|intro _
   refine Ks rfl (Zbk (n:=p) (l:=0) (h:=65535)) ?_
   by_cases h0:0≤p∧p≤65535
   ·rw [decide_eq_true h0]
    repeat' first|refine Kz ?_|intro _
    exact Post.round (k+1) ⟨by omega,Zho hf hp h0⟩ (by omega) Zae Zaa
   ·rw [decide_eq_false h0]
    repeat' first|refine Kz ?_|intro _
    (refine Zac ?_)
    exact ⟨_,⟨by rw [decide_eq_false (fun g=>h0 ((crv2.1 g).1.2 p hm))],rfl⟩,Zaa⟩
  ·rw [List.take_of_length_le (by omega)] at hf
   repeat' first|refine Kz ?_|intro _
   refine Ks rfl (Zbk (n:=(tab.length:Int)) (l:=2) (h:=17)) ?_
   by_cases h0:2≤(tab.length:Int)∧(tab.length:Int)≤17
   ·rw [decide_eq_true h0]
    by_cases h1:ss.length=0
    ·repeat' first|refine Kz ?_|intro _
     (refine Zac ?_)
     exact ⟨_,⟨by rw [decide_eq_true (crv2.2 ⟨⟨⟨by omega,by omega⟩,hf⟩,h1⟩)];simp [h1],rfl⟩,Zaa⟩
    ·repeat' first|refine Kz ?_|intro _
     (refine Zac ?_)
     exact ⟨_,⟨by rw [decide_eq_false (fun g=>h1 (crv2.1 g).2)];simp [h1],rfl⟩,Zaa⟩
   ·rw [decide_eq_false h0]
    repeat' first|refine Kz ?_|intro _
    (refine Zac ?_)
    exact ⟨_,⟨by rw [decide_eq_false (fun g=>h0 (by have:=(crv2.1 g).1.1;omega))],rfl⟩,Zaa⟩
 by_cases k3:kv=3
 ·subst k3
  repeat' first|refine Kz ?_|intro _
  rename_i b1
  refine Tri.loop (ι:=Nat) (fun k=>k≤ss.length∧ordTo ss k) (fun k=>ss.length - k) (fun k=>[(1,.pointer (some ⟨b1,0,none⟩)),(4,.int .i64 (fromI ss k)),(5,.int .i64 k)]) (fun _=>.cl b1 [.int .i64 3,.slice p0 tab.length c0,.slice p1 ss.length c1] 25::As) 0 ⟨by omega,fun j h=>by omega⟩ Zae Zaa ?_
  intro k ⟨hk,hf⟩
  repeat' first|refine Kz ?_|intro _
  (refine Kx (fun hc=>?_) fun hc=>?_)
  ·obtain ⟨s,hs⟩:∃ s,ss[k]?=some s:=⟨_,List.getElem?_eq_getElem (by omega)⟩
   have hst:=fun h=>Zq0 hf hs h
   have hno:¬ (s.fine∧fromI ss k < s.till)→¬ Crv.ok ⟨3,tab,ss⟩:=fun h g=>h ((Zyl.2 (crv3.1 g).2.2).1 k (by omega) s hs)
   have hfs:=Zce hs
   generalize fromI ss k=fr at *
   repeat' first|refine Kz ?_|intro _
   refine Ks rfl (Zl4 (s:=s)) ?_
   by_cases h0:s.fine
   ·rw [decide_eq_true h0]
    by_cases h1:fr < s.till
    ·repeat' first|refine Kz ?_|intro _
     refine Post.round (k+1) ⟨by omega,hst ⟨h0,h1⟩⟩ (by omega) ?_ Zaa
     rw [hfs]
     (exact Zae)
    ·repeat' first|refine Kz ?_|intro _
     (refine Zac ?_)
     exact ⟨_,⟨by rw [decide_eq_false (hno fun g=>h1 g.2)],rfl⟩,Zaa⟩
   ·rw [decide_eq_false h0]
    repeat' first|refine Kz ?_|intro _
    (refine Zac ?_)
    exact ⟨_,⟨by rw [decide_eq_false (hno fun g=>h0 g.1)],rfl⟩,Zaa⟩
  ·have hkl:k=ss.length:=by omega
   subst hkl
   have hoi:=@Zyl ss
   generalize fromI ss ss.length=fr at *
   repeat' first|refine Kz ?_|intro _
   refine Ks rfl (Zbk (n:=(ss.length:Int)) (l:=1) (h:=4)) ?_
   by_cases h0:1≤(ss.length:Int)∧(ss.length:Int)≤4
   ·rw [decide_eq_true h0]
    by_cases h1:fr=1000000
    ·by_cases h2:tab.length=0
     ·repeat' first|refine Kz ?_|intro _
      (refine Zac ?_)
      exact ⟨_,⟨by rw [decide_eq_true (crv3.2 ⟨h2,⟨by omega,by omega⟩,hoi.1 ⟨hf,h1⟩⟩)];simp [h2],rfl⟩,Zaa⟩
     ·repeat' first|refine Kz ?_|intro _
      (refine Zac ?_)
      exact ⟨_,⟨by rw [decide_eq_false (fun g=>h2 (crv3.1 g).1)];simp [h2],rfl⟩,Zaa⟩
    ·repeat' first|refine Kz ?_|intro _
     (refine Zac ?_)
     exact ⟨_,⟨by rw [decide_eq_false (fun g=>h1 (hoi.2 (crv3.1 g).2.2).2)],rfl⟩,Zaa⟩
   ·rw [decide_eq_false h0]
    repeat' first|refine Kz ?_|intro _
    (refine Zac ?_)
    exact ⟨_,⟨by rw [decide_eq_false (fun g=>h0 (by have:=(crv3.1 g).2.1;omega))],rfl⟩,Zaa⟩
 ·repeat' first|refine Kz ?_|intro _
  (refine Zac ?_)
  exact ⟨_,⟨by rw [decide_eq_false (crv0 k1 k2 k3)],rfl⟩,Zaa⟩
theorem Zrk [RdIn As tv Int (cI .i64) tab] [RdIn As sv Seg cSeg ss] (hl:tab.length≤1000000000) (hl':ss.length≤1000000000):CQ Tryz.prog w0 31 [.agg #[.int .i64 kv,tv,sv]] As (.int .i64 (crvE ⟨kv,tab,ss⟩)):=by
 refine Zad tv fun p0 c0 e0=>Zad sv fun p1 c1 e1=>?_
 subst e0 e1
 refine Zab Tryz.func31 rfl Tryz.ntmps31 rfl ?_
 repeat' first|refine Kz ?_|intro _
 refine Ks rfl (Zgj (kv:=kv) (tv:=.slice p0 tab.length c0) (tab:=tab) (sv:=.slice p1 ss.length c1) (ss:=ss) hl hl') ?_
 by_cases h:Crv.ok ⟨kv,tab,ss⟩
 ·rw [decide_eq_true h]
  repeat' first|refine Kz ?_|intro _
  (refine Zac ?_)
  exact ⟨_,⟨by unfold crvE;rw [if_pos h],rfl⟩,Zaa⟩
 ·rw [decide_eq_false h]
  repeat' first|refine Kz ?_|intro _
  (refine Zac ?_)
  exact ⟨_,⟨by unfold crvE;rw [if_neg h],rfl⟩,Zaa⟩
set_option maxRecDepth 100000 in
theorem Zrd [RdIn As tv Int (cI .i64) tab] [RdIn As sv Seg cSeg ss] (hl:tab.length≤1000000000) (hl':ss.length≤1000000000):CQ Tryz.prog w0 32 [.agg #[.int .i64 kv,tv,sv]] As (.bool (decide (Crv.ok ⟨kv,tab,ss⟩∧Crv.exact ⟨kv,tab,ss⟩))):=by
 refine Zad tv fun p0 c0 e0=>Zad sv fun p1 c1 e1=>?_
 subst e0 e1
 refine Zab Tryz.func32 rfl Tryz.ntmps32 rfl ?_
 repeat' first|refine Kz ?_|intro _
 rename_i b1
 refine Ks rfl (Zgj (kv:=kv) (tv:=.slice p0 tab.length c0) (tab:=tab) (sv:=.slice p1 ss.length c1) (ss:=ss) hl hl') ?_
 by_cases h:Crv.ok ⟨kv,tab,ss⟩
 case neg =>
  rw [decide_eq_false h]
  repeat' first|refine Kz ?_|intro _
  (refine Zac ?_)
  exact ⟨_,⟨by rw [decide_eq_false (fun g=>h g.1)],rfl⟩,Zaa⟩
 rw [decide_eq_true h]
 repeat' first|refine Kz ?_|intro _
 refine Tri.loop (ι:=Nat) (fun k=>k≤ss.length∧∀ j < k,∀ s,ss[j]?=some s→s.den=1) (fun k=>ss.length - k) (fun k=>[(1,.pointer (some ⟨b1,0,none⟩)),(3,.int .i64 k)]) (fun _=>.cl b1 [.int .i64 kv,.slice p0 tab.length c0,.slice p1 ss.length c1] 25::As) 0 ⟨by omega,fun j h=>by omega⟩ Zae Zaa ?_
 intro k ⟨hk,hf⟩
 repeat' first|refine Kz ?_|intro _
 (refine Kx (fun hc=>?_) fun hc=>?_)
 ·obtain ⟨s,hs⟩:∃ s,ss[k]?=some s:=⟨_,List.getElem?_eq_getElem (by omega)⟩
  by_cases hd:s.den=1
  ·repeat' first|refine Kz ?_|intro _
   refine Post.round (k+1) ⟨by omega,fun j hj t ht=>?_⟩ (by omega) Zae Zaa
   rcases Nat.lt_or_ge j k with h1|h1
   ·exact hf j h1 t ht
   ·rw [show j=k by omega,hs] at ht
    rw [← Option.some.inj ht];exact hd
  ·repeat' first|refine Kz ?_|intro _
   (refine Zac ?_)
   exact ⟨_,⟨by rw [decide_eq_false (fun g=>hd (g.2 s (List.mem_of_getElem? hs)))],rfl⟩,Zaa⟩
 ·repeat' first|refine Kz ?_|intro _
  (refine Zac ?_)
  refine ⟨_,⟨?_,rfl⟩,Zaa⟩
  rw [decide_eq_true]
  refine ⟨h,fun s hs=>?_⟩
  obtain ⟨j,hj⟩:=List.mem_iff_getElem?.1 hs
  exact hf j (by have h5:j < ss.length:=(List.getElem?_eq_some_iff.1 hj).1;omega) s hj
end Go.Proofs.YtoednejlfbfciaaGreatDoor
