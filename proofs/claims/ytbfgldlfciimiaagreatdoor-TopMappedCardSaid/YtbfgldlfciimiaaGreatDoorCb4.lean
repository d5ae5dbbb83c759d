/- Walks: divisors, powers, roots of magnitudes. -/
import Derived.Test.YtbfgldlfciimiaaGreatDoorWb1
import Derived.Test.YtbfgldlfciimiaaGreatDoorCb3
set_option maxHeartbeats 1000000
namespace Go.Proofs.YtbfgldlfciimiaaGreatDoor.Q
open Go Go.Sx
variable {w0:World} {As:List Ent}
theorem Zku {v o:Value} {a b:Nat} [hf:FtIn As v Nat (cN .u32) (mag a)] [hg:FtIn As o Nat (cN .u32) (mag b)] (ha:(mag a).length≤10000000) (hb:(mag b).length≤10000000):CallsS Tryz.prog w0 157 [v,o] As (MagR As (Nat.gcd a b)):=by
 refine Zff ?_
 refine Zab Tryz.func157 rfl Tryz.ntmps157 rfl ?_
 repeat' first|refine Kz ?_|intro _
 refine Tri.loop (ι:=Value × Value × Nat × Nat) (fun s=>Nat.gcd s.2.2.1 s.2.2.2=Nat.gcd a b∧(mag s.2.2.1).length≤10000000∧(mag s.2.2.2).length≤10000000) (fun s=>s.2.2.2)
  (fun s=>[(0,s.1),(1,s.2.1)]) (fun s=>.ft (rd (cN .u32) s.2.1 (mag s.2.2.2))::.ft (rd (cN .u32) s.1 (mag s.2.2.1))::As) (v,o,a,b) ⟨rfl,ha,hb⟩ Zad (Ents.trans (Ents.dup (v:=v)) (Ents.dup (v:=o))) ?_
 rintro ⟨v,o,x,y⟩ ⟨hxy,hx,hy⟩
 simp only at hxy hx hy
 show Tri _ _ _ _ [(0,v),(1,o)] (.ft (rd (cN .u32) o (mag y))::.ft (rd (cN .u32) v (mag x))::As) _
 repeat' first|refine Kz ?_|intro _
 refine Kt rfl (Zc8 (n:=y)) ?_
 by_cases hy0:y=0
 ·subst hy0
  rw [Nat.gcd_zero_right] at hxy
  subst hxy
  repeat' first|refine Kz ?_|intro _
  (refine Zac ?_)
  exact ⟨_,rfl,Zaa⟩
 ·by_cases hs:(mag x).length≤2∧(mag y).length≤2
  ·obtain ⟨hs1,hs2⟩:=hs
   have hx9:x < 1000000000000000000:=by
    have h1:=Zai x
    have h2:=Nat.pow_le_pow_right (n:=1000000000) (by omega) hs1
    omega
   have hy9:y < 1000000000000000000:=by
    have h1:=Zai y
    have h2:=Nat.pow_le_pow_right (n:=1000000000) (by omega) hs2
    omega
   repeat' first|refine Kz ?_|intro _
   refine Kt rfl (Ziy (a:=x) hs1) ?_
   repeat' first|refine Kz ?_|intro _
   refine Kt rfl (Ziy (a:=y) hs2) ?_
   repeat' first|refine Kz ?_|intro _
   refine Tri.loop (ι:=Nat × Nat) (fun s=>Nat.gcd s.1 s.2=Nat.gcd a b∧s.1 < 1000000000000000000∧s.2 < 1000000000000000000) (fun s=>s.2)
    (fun s=>[(5,.int .u64 (s.1:Int)),(6,.int .u64 (s.2:Int))]) (fun _=>As) (x,y) ⟨hxy,hx9,hy9⟩ Zad Zaa ?_
   rintro ⟨c,d⟩ ⟨hcd,hc9,hd9⟩
   simp only at hcd hc9 hd9
   show Tri _ _ _ _ [(5,.int .u64 (c:Int)),(6,.int .u64 (d:Int))] As _
   repeat' first|refine Kz ?_|intro _
   (refine Kx (fun hc=>?_) fun hc=>?_)
   ·have hre:((c:Int) % (d:Int))=((c % d:Nat):Int):=(Int.natCast_emod _ _).symm
    have hlt:c % d < d:=Nat.mod_lt _ (by omega)
    repeat' first|refine Kz ?_|intro _
    refine Zam (.take 0 (.take 1 (.take 2 (.take 3 (.take 4 (.take 5 (.done))))))) ?_
    repeat' first|refine Kf ?_|intro _|constructor
    rw [hre]
    exact Post.round (d,c % d) ⟨by simp only;rw [← hcd,Nat.gcd_comm,Nat.gcd_comm c d];exact (Nat.gcd_rec d c).symm,hd9,by simp only;omega⟩ (by simp only;exact hlt) Zad Zaa
   ·have hd0:d=0:=by omega
    subst hd0
    rw [Nat.gcd_zero_right] at hcd
    repeat' first|refine Kz ?_|intro _
    refine TL.call rfl rfl rfl (Zc6 (n:=c) (by omega)) ?_
    rintro _ _ ⟨p,cap,rfl,rfl⟩
    rw [← hcd]
    repeat' first|refine Kz ?_|intro _
    (refine Zac ?_)
    exact ⟨_,rfl,Zaa⟩
  ·have hlt:x % y < y:=Nat.mod_lt _ (by omega)
   have hl9:=Zah (Nat.le_of_lt hlt)
   have hgc:Nat.gcd y (x % y)=Nat.gcd a b:=by rw [← hxy,Nat.gcd_comm x y,Nat.gcd_rec y x,Nat.gcd_comm]
   by_cases hs1:(mag x).length≤2
   all_goals
    repeat' first|refine Kf ?_|intro _|constructor
    refine TL.call rfl rfl rfl (Zby (a:=x) (b:=y) hy0 (by omega) (by omega)) ?_
    rintro _ _ ⟨p,cap,p',cap',rfl,rfl⟩
    repeat' first|refine Kz ?_|intro _
    exact Post.round (o,.slice p' (mag (x % y)).length cap',y,x % y) ⟨hgc,by simp only;omega,by simp only;omega⟩ (by simp only;exact hlt) Zad Zaa
end Go.Proofs.YtbfgldlfciimiaaGreatDoor.Q
