/- Walks: ink's reference: totals, cuts, limits. -/
import Derived.Test.YtoednejlfbfciaaGreatDoorKw1
set_option maxHeartbeats 1000000
namespace Go.Proofs.YtoednejlfbfciaaGreatDoor
open Go Go.Sx
variable {w0:World} {As:List Ent}
set_option maxRecDepth 100000 in
theorem Zns {c m y k n:Int} (hc:0≤c∧c≤65535) (hm:0≤m∧m≤65535) (hy:0≤y∧y≤65535) (hk:0≤k∧k≤65535) (hn:0≤n∧n≤262140) :
  CQ Tryz.prog w0 41 [.agg #[.int .i64 c,.int .i64 m,.int .i64 y,.int .i64 k],.int .i64 n] As ((cutI ⟨c,m,y,k⟩ n).val):=by
 have k1:=Zg1 (r:=n - min k n) hc (by omega)
 have k2:=Zg1 (r:=n - min k n) hm (by omega)
 have k3:=Zg1 (r:=n - min k n) hy (by omega)
 have hd:∀ x s:Int,0 < s→x * (n - min k n) / s=partI x (n - min k n) s:=fun x s hs=>by unfold partI;rw [if_neg (by omega)]
 refine Zab Tryz.func41 rfl Tryz.ntmps41 rfl ?_
 repeat' first|refine Kz ?_|intro _
 rename_i b2 b4
 (refine Kx (fun hc=>?_) fun hc=>?_)
 ·repeat' first|refine Kz ?_|intro _
  (refine Zac ?_)
  exact ⟨_,⟨by unfold cutI Ink.tot;rw [if_pos (by simp only;omega)];rfl,rfl⟩,Zaa⟩
 ·repeat' first|refine Kz ?_|intro _
  rename_i b6
  rw [show (if n < k then n else k)=min k n by split<;>omega]
  refine Zax 4 ?_
  by_cases hs:0 < c+m+y
  ·repeat' first|refine Kz ?_|intro _
   refine Zal [.cl b2 [.int .i64 c,.int .i64 m,.int .i64 y,.int .i64 k] 41,.cl b6 [.int .i64 0,.int .i64 0,.int .i64 0,.int .i64 (min k n)] 41] [] (.take 0 (.take 1 (.take 2 (.take 3 (.take 4 (.take 5 (.take 6 (.take 7 (.take 8 (.take 9 (.take 10 (.take 11 (.all [(12,.done)]))))))))))))) ?_
   repeat' first|refine Kf ?_|intro _|constructor
   rw [hd c _ hs]
   repeat' first|refine Kf ?_|intro _|constructor
   refine Zal [.cl b2 [.int .i64 c,.int .i64 m,.int .i64 y,.int .i64 k] 41,.cl b6 [.int .i64 (partI c (n - min k n) (c+m+y)),.int .i64 0,.int .i64 0,.int .i64 (min k n)] 41] [] (.take 0 (.take 1 (.take 2 (.take 3 (.take 4 (.take 5 (.take 6 (.take 7 (.take 8 (.take 9 (.take 10 (.take 11 (.all [(12,.done)]))))))))))))) ?_
   repeat' first|refine Kf ?_|intro _|constructor
   rw [hd m _ hs]
   repeat' first|refine Kf ?_|intro _|constructor
   refine Zal [.cl b2 [.int .i64 c,.int .i64 m,.int .i64 y,.int .i64 k] 41,.cl b6 [.int .i64 (partI c (n - min k n) (c+m+y)),.int .i64 (partI m (n - min k n) (c+m+y)),.int .i64 0,.int .i64 (min k n)] 41] [] (.take 0 (.take 1 (.take 2 (.take 3 (.take 4 (.take 5 (.take 6 (.take 7 (.take 8 (.take 9 (.take 10 (.take 11 (.all [(12,.done)]))))))))))))) ?_
   repeat' first|refine Kf ?_|intro _|constructor
   rw [hd y _ hs]
   repeat' first|refine Kf ?_|intro _|constructor
   (refine Zac ?_)
   exact ⟨_,⟨by unfold cutI Ink.tot;rw [if_neg (by simp only;omega)];rfl,rfl⟩,Zaa⟩
  ·have hz:c+m+y=0:=by omega
   have e:cutI ⟨c,m,y,k⟩ n=⟨0,0,0,min k n⟩:=by unfold cutI;rw [if_neg (show ¬ (⟨c,m,y,k⟩:Ink).tot≤n from hc)];simp [partI,Ink.three,cutK,hz]
   repeat' first|refine Kz ?_|intro _
   (refine Zac ?_)
   exact ⟨_,⟨by rw [e];rfl,rfl⟩,Zaa⟩
theorem Zfu {c m y k:Int}:CQ Tryz.prog w0 18 [.agg #[.int .i64 c,.int .i64 m,.int .i64 y,.int .i64 k]] As (.tuple #[.int .i64 (totalW ⟨c,m,y,k⟩).1,.int .i64 (totalW ⟨c,m,y,k⟩).2]):=by
 refine Zab Tryz.func18 rfl Tryz.ntmps18 rfl ?_
 repeat' first|refine Kz ?_|intro _
 refine TL.f rfl rfl (Zau rfl Zcd (Nat.le_refl _) (by decide)) ?_
 repeat' first|refine Kz ?_|intro _
 refine Ks rfl (Zef (xs:=[c,m,y,k]) (by simp)) ?_
 by_cases h:inW 65535 [c,m,y,k]
 ·rw [decide_eq_true h]
  have h4:=Zyn.1 h
  repeat' first|refine Kz ?_|intro _
  (refine Zac ?_)
  exact ⟨_,⟨by unfold totalW Ink.list;rw [if_pos h];rfl,rfl⟩,Zaa⟩
 ·rw [decide_eq_false h]
  repeat' first|refine Kz ?_|intro _
  (refine Zac ?_)
  exact ⟨_,⟨by unfold totalW Ink.list;rw [if_neg h],rfl⟩,Zaa⟩
theorem Zjh {c m y k n:Int}:CQ Tryz.prog w0 19 [.agg #[.int .i64 c,.int .i64 m,.int .i64 y,.int .i64 k],.int .i64 n] As (.tuple #[(cutW ⟨c,m,y,k⟩ n).1.val,.int .i64 (cutW ⟨c,m,y,k⟩ n).2]):=by
 refine Zab Tryz.func19 rfl Tryz.ntmps19 rfl ?_
 repeat' first|refine Kz ?_|intro _
 refine TL.f rfl rfl (Zau rfl Zcd (Nat.le_refl _) (by decide)) ?_
 repeat' first|refine Kz ?_|intro _
 refine Ks rfl (Zef (xs:=[c,m,y,k]) (by simp)) ?_
 by_cases h:inW 65535 [c,m,y,k]
 ·rw [decide_eq_true h]
  have h4:=Zyn.1 h
  by_cases hn:0≤n∧n≤262140
  ·repeat' first|refine Kz ?_|intro _
   refine Ks rfl (Zns (by omega) (by omega) (by omega) (by omega) hn) ?_
   generalize hq:cutI ⟨c,m,y,k⟩ n=q
   obtain ⟨q1,q2,q3,q4⟩:=q
   show TL _ _ _ _ _ ((_,.agg #[.int .i64 q1,.int .i64 q2,.int .i64 q3,.int .i64 q4])::_) _ _
   repeat' first|refine Kz ?_|intro _
   (refine Zac ?_)
   exact ⟨_,⟨by unfold cutW Ink.list;rw [if_pos ⟨h,hn⟩,hq];rfl,rfl⟩,Zaa⟩
  ·rcases Decidable.em (n < 0) with h0|h0
   ·repeat' first|refine Kz ?_|intro _
    (refine Zac ?_)
    exact ⟨_,⟨by unfold cutW Ink.list;rw [if_neg (fun g=>hn g.2)];rfl,rfl⟩,Zaa⟩
   ·repeat' first|refine Kz ?_|intro _
    (refine Zac ?_)
    exact ⟨_,⟨by unfold cutW Ink.list;rw [if_neg (fun g=>hn g.2)];rfl,rfl⟩,Zaa⟩
 ·rw [decide_eq_false h]
  repeat' first|refine Kz ?_|intro _
  (refine Zac ?_)
  exact ⟨_,⟨by unfold cutW Ink.list;rw [if_neg (fun g=>h g.1)];rfl,rfl⟩,Zaa⟩
theorem Zfv {c m y k n:Int}:CQ Tryz.prog w0 21 [.agg #[.int .i64 c,.int .i64 m,.int .i64 y,.int .i64 k],.int .i64 n] As (.tuple #[(limitW ⟨c,m,y,k⟩ n).1.val,.int .i64 (limitW ⟨c,m,y,k⟩ n).2]):=by
 refine Zab Tryz.func21 rfl Tryz.ntmps21 rfl ?_
 repeat' first|refine Kz ?_|intro _
 refine TL.f rfl rfl (Zau rfl Zcd (Nat.le_refl _) (by decide)) ?_
 repeat' first|refine Kz ?_|intro _
 refine Ks rfl (Zef (xs:=[c,m,y,k]) (by simp)) ?_
 by_cases h:inW 10000 [c,m,y,k]
 ·rw [decide_eq_true h]
  have h4:=Zyn.1 h
  by_cases hn:n < 10000∨40000 < n
  ·rcases Decidable.em (n < 10000) with h0|h0
   ·repeat' first|refine Kz ?_|intro _
    (refine Zac ?_)
    exact ⟨_,⟨by unfold limitW Ink.list;rw [if_neg (fun g=>g h),if_pos hn];rfl,rfl⟩,Zaa⟩
   ·repeat' first|refine Kz ?_|intro _
    (refine Zac ?_)
    exact ⟨_,⟨by unfold limitW Ink.list;rw [if_neg (fun g=>g h),if_pos hn];rfl,rfl⟩,Zaa⟩
  ·repeat' first|refine Kz ?_|intro _
   refine Ks rfl (Zns (by omega) (by omega) (by omega) (by omega) (by omega)) ?_
   generalize hq:cutI ⟨c,m,y,k⟩ n=q
   obtain ⟨q1,q2,q3,q4⟩:=q
   show TL _ _ _ _ _ ((_,.agg #[.int .i64 q1,.int .i64 q2,.int .i64 q3,.int .i64 q4])::_) _ _
   repeat' first|refine Kz ?_|intro _
   (refine Zac ?_)
   exact ⟨_,⟨by unfold limitW Ink.list;rw [if_neg (fun g=>g h),if_neg hn,hq];rfl,rfl⟩,Zaa⟩
 ·rw [decide_eq_false h]
  repeat' first|refine Kz ?_|intro _
  (refine Zac ?_)
  exact ⟨_,⟨by unfold limitW Ink.list;rw [if_pos h];rfl,rfl⟩,Zaa⟩
end Go.Proofs.YtoednejlfbfciaaGreatDoor
