/- Plain: amounts of ink: greys, black out of a curve's value. -/
import Derived.Test.YtoednejlfbfciaaGreatDoorKp1
import Derived.Test.YtoednejlfbfciaaGreatDoorCc3
set_option maxHeartbeats 1000000
namespace Go.Sx
open Go
def greyI (c m y:Int):Int:=min c (min m y)
def splitI (c m y k n:Int):Ink:=cutI ⟨c - min k (greyI c m y),m - min k (greyI c m y),y - min k (greyI c m y),k⟩ n
theorem Ztw {n:Int} (hn:0≤n):cutI ⟨0,0,0,0⟩ n=⟨0,0,0,0⟩:=by
 unfold cutI Ink.tot
 rw [if_pos (by simp only;omega)]
theorem Zn9 {y:Rat} {k:Nat} (h0:0≤y) (h1:y≤1):0≤Go.Proofs.YtoednejlfbfciaaGreatDoor.Q.nearQ y k∧Go.Proofs.YtoednejlfbfciaaGreatDoor.Q.nearQ y k≤(k:Int):=by
 unfold Go.Proofs.YtoednejlfbfciaaGreatDoor.Q.nearQ
 have hd:=y.den_pos
 have hn:0≤y.num:=Rat.num_nonneg.2 h0
 have hle:y.num≤(y.den:Int):=by
  have h:=(Rat.le_iff y 1).1 h1
  simpa using h
 have hk:(0:Int)≤((k * 2:Nat):Int):=Int.natCast_nonneg _
 constructor
 ·refine Int.ediv_nonneg ?_ (Int.natCast_nonneg _)
  have:=Int.mul_nonneg hn hk
  omega
 ·have h2:=Int.mul_le_mul_of_nonneg_right hle hk
  have h3:(y.num * ((k * 2:Nat):Int)+(y.den:Int)) < ((k:Int)+1) * ((y.den * 2:Nat):Int):=by
   have e:((k:Int)+1) * ((y.den * 2:Nat):Int)=(y.den:Int) * ((k * 2:Nat):Int)+(y.den:Int)+(y.den:Int):=by
        push_cast;grind
   omega
  have:=Int.ediv_lt_of_lt_mul (show (0:Int) < ((y.den * 2:Nat):Int) by omega) h3
  omega
end Go.Sx
