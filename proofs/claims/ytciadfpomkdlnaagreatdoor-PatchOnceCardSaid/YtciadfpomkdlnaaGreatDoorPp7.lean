/- Plain: means of whole numbers; joined lists. -/
import Derived.Test.YtciadfpomkdlnaaGreatDoorPwb
set_option maxHeartbeats 1000000
namespace Go.Proofs.YtciadfpomkdlnaaGreatDoor.Q
open Go Go.Sx
theorem Zr4 {s:Int} {c:Nat} (h:1≤c):meanQ s c=(2 * s+(c:Int)) / (2 * (c:Int)):=by
 obtain ⟨e1,e2⟩:=Zc0 (n:=s) (d:=c) (by omega)
 unfold meanQ nearQ
 rw [e1,e2]
 have hg:0 < Nat.gcd s.natAbs c:=Nat.gcd_pos_of_pos_right _ (by omega)
 obtain ⟨d,hd⟩:=Nat.gcd_dvd_right s.natAbs c
 have hs:((Nat.gcd s.natAbs c:Nat):Int) ∣ s:=Int.ofNat_dvd_left.2 (Nat.gcd_dvd_left _ _)
 obtain ⟨a,ha⟩:=hs
 generalize Nat.gcd s.natAbs c=g at *
 have h1:s / (g:Int)=a:=by rw [ha];exact Int.mul_ediv_cancel_left _ (by omega)
 have h2:c / g=d:=by rw [hd];exact Nat.mul_div_cancel_left _ hg
 rw [h1,h2,ha,hd]
 have e:(2 * ((g:Int) * a)+((g * d:Nat):Int))=(g:Int) * (a * ((1 * 2:Nat):Int)+(d:Int)):=by
  rw [Int.natCast_mul,Int.mul_add]
  have:((1 * 2:Nat):Int)=2:=rfl
  rw [this]
  grind
 have e':(2 * ((g * d:Nat):Int))=(g:Int) * ((d * 2:Nat):Int):=by
  rw [Int.natCast_mul,Int.natCast_mul]
  have:((2:Nat):Int)=2:=rfl
  rw [this]
  grind
 rw [e,e',Int.mul_ediv_mul_of_pos _ _ (by omega)]
theorem Zv9 (x:Int):meanQ x 1=x:=by
 rw [Zr4 (Nat.le_refl _)]
 omega
theorem Zzt {s lo hi:Int} {c:Nat} (h:1≤c) (h1:lo * (c:Int)≤s) (h2:s≤hi * (c:Int)):lo≤meanQ s c∧meanQ s c≤hi:=by
 rw [Zr4 h]
 have hc:0 < 2 * (c:Int):=by omega
 constructor
 ·rw [Int.le_ediv_iff_mul_le hc]
  have e:lo * (2 * (c:Int))=2 * (lo * (c:Int)):=by grind
  rw [e];omega
 ·have hlt:(2 * s+(c:Int)) / (2 * (c:Int)) < hi+1:=by
   rw [Int.ediv_lt_iff_lt_mul hc]
   have e:(hi+1) * (2 * (c:Int))=2 * (hi * (c:Int))+2 * (c:Int):=by grind
   rw [e];omega
  omega
end Go.Proofs.YtciadfpomkdlnaaGreatDoor.Q
