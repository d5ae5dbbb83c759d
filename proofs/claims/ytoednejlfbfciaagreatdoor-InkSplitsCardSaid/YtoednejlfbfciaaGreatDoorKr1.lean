/- Walks: ink's reference: totals, cuts, limits. -/
import Derived.Test.YtoednejlfbfciaaGreatDoorKw1
set_option maxHeartbeats 1000000
namespace Go.Proofs.YtoednejlfbfciaaGreatDoor
open Go Go.Sx
variable {w0:World} {As:List Ent}
set_option maxRecDepth 100000 in
theorem Zko {c m y k n:Int} (hc:0≤c∧c≤65535) (hm:0≤m∧m≤65535) (hy:0≤y∧y≤65535) (hk:0≤k∧k≤65535) (hn:0≤n∧n≤262140) :
  CQ Tryz.prog w0 41 [.agg #[.int .i64 c,.int .i64 m,.int .i64 y,.int .i64 k],.int .i64 n] As ((cutI ⟨c,m,y,k⟩ n).val):=by
 have k1:=Zhm (r:=n - min k n) hc (by omega)
 have k2:=Zhm (r:=n - min k n) hm (by omega)
 have k3:=Zhm (r:=n - min k n) hy (by omega)
 have hd:∀ x s:Int,0 < s→x * (n - min k n) / s=partI x (n - min k n) s:=fun x s hs=>by unfold partI;rw [if_neg (by omega)]
 refine Zab Tryz.func41 rfl Tryz.ntmps41 rfl ?_
 repeat' first|refine Kz ?_|intro _
 rename_i b2 b4
 (refine Kx (fun hc=>?_) fun hc=>?_)
 ·repeat' first|refine Kz ?_|intro _
  (refine Zac ?_)
  exact ⟨_,⟨by unfold cutI Ink.tot;rw [if_pos (by simp only;omega)];rfl,rfl⟩,Zaa⟩
 ·repeat' first|refine Kz ?_|intro _
  rename_i b6
  rw [show (if n < k then n else k)=min k n by split<;>omega]
  refine Zbh 4 ?_
  by_cases hs:0 < c+m+y
  ·repeat' first|refine Kz ?_|intro _
   refine Zaj [.cl b2 [.int .i64 c,.int .i64 m,.int .i64 y,.int .i64 k] 41,.cl b6 [.int .i64 0,.int .i64 0,.int .i64 0,.int .i64 (min k n)] 41] [] (.take 0 (.take 1 (.take 2 (.take 3 (.take 4 (.take 5 (.take 6 (.take 7 (.take 8 (.take 9 (.take 10 (.take 11 (.all [(12,.done)]))))))))))))) ?_
   repeat' first|refine Kf ?_|intro _|constructor
   rw [hd c _ hs]
   repeat' first|refine Kf ?_|intro _|constructor
   refine Zaj [.cl b2 [.int .i64 c,.int .i64 m,.int .i64 y,.int .i64 k] 41,.cl b6 [.int .i64 (partI c (n - min k n) (c+m+y)),.int .i64 0,.int .i64 0,.int .i64 (min k n)] 41] [] (.take 0 (.take 1 (.take 2 (.take 3 (.take 4 (.take 5 (.take 6 (.take 7 (.take 8 (.take 9 (.take 10 (.take 11 (.all [(12,.done)]))))))))))))) ?_
   repeat' first|refine Kf ?_|intro _|constructor
   rw [hd m _ hs]
   repeat' first|refine Kf ?_|intro _|constructor
   refine Zaj [.cl b2 [.int .i64 c,.int .i64 m,.int .i64 y,.int .i64 k] 41,.cl b6 [.int .i64 (partI c (n - min k n) (c+m+y)),.int .i64 (partI m (n - min k n) (c+m+y)),.int .i64 0,.int .i64 (min k n)] 41] [] (.take 0 (.take 1 (.take 2 (.take 3 (.take 4 (.take 5 (.take 6 (.take 7 (.take 8 (.take 9 (.take 10 (.take 11 (.all [(12,.done)]))))))))))))) ?_
   repeat' first|refine Kf ?_|intro _|constructor
   rw [hd y _ hs]
   repeat' first|refine Kf ?_|intro _|constructor
   (refine Zac ?_)
   exact ⟨_,⟨by unfold cutI Ink.tot;rw [if_neg (by simp only;omega)];rfl,rfl⟩,Zaa⟩
  ·have hz:c+m+y=0:=by omega
   have e:cutI ⟨c,m,y,k⟩ n=⟨0,0,0,min k n⟩:=by unfold cutI;rw [if_neg (show ¬ (⟨c,m,y,k⟩:Ink).tot≤n from hc)];simp [partI,Ink.three,cutK,hz]
   repeat' first|refine Kz ?_|intro _
   (refine Zac ?_)
   exact ⟨_,⟨by rw [e];rfl,rfl⟩,Zaa⟩
end Go.Proofs.YtoednejlfbfciaaGreatDoor
