/- Plain: amounts of ink: greys, black out of a curve's value. -/
import Derived.Test.YtoednejlfbfciaaGreatDoorKp1
import Derived.Test.YtoednejlfbfciaaGreatDoorCc3
set_option maxHeartbeats 1000000
namespace Go.Sx
open Go
def greyI (c m y:Int):Int:=min c (min m y)
def splitI (c m y k n:Int):Ink:=cutI ⟨c - min k (greyI c m y),m - min k (greyI c m y),y - min k (greyI c m y),k⟩ n
theorem Zvr {c m y k:Int} (_h1:0≤c) (_h2:0≤m) (_h3:0≤y) (h0:0≤k):Ink.ok ⟨c - min k (greyI c m y),m - min k (greyI c m y),y - min k (greyI c m y),k⟩:=by
 unfold Ink.ok greyI
 simp only
 omega
theorem Zqs {g n:Int} (_h0:0≤g) (hn:g≤n):splitI g g g g n=⟨0,0,0,g⟩:=by
 have e:g - min g (greyI g g g)=0:=by unfold greyI;omega
 unfold splitI cutI Ink.tot
 rw [e,if_pos (by simp only;omega)]
theorem Zqr {c m y n:Int} (h1:0≤c) (h2:0≤m) (h3:0≤y):splitI c m y 0 n=cutI ⟨c,m,y,0⟩ n:=by
 have e:min 0 (greyI c m y)=0:=by unfold greyI;omega
 unfold splitI
 rw [e,Int.sub_zero,Int.sub_zero,Int.sub_zero]
theorem Zvs {c m y k n:Int} (h1:0≤c) (h2:0≤m) (h3:0≤y) (h0:0≤k) (hn:0≤n) :
  (splitI c m y k n).ok∧(splitI c m y k n).tot≤n∧(splitI c m y k n).c≤c∧(splitI c m y k n).m≤m∧(splitI c m y k n).y≤y∧(splitI c m y k n).k≤k:=by
 have hk:=Zvr h1 h2 h3 h0
 have hl:=Zwq hk hn
 have ht:=(Zt0 hk hn).1
 have hg:0≤min k (greyI c m y):=by unfold greyI;omega
 unfold splitI
 simp only at hl
 exact ⟨hl.1,ht,by omega,by omega,by omega,hl.2.2.2.2⟩
theorem Zwp {n:Int} (hn:0≤n):cutI ⟨0,0,0,0⟩ n=⟨0,0,0,0⟩:=by
 unfold cutI Ink.tot
 rw [if_pos (by simp only;omega)]
theorem Zp4 {y:Rat} {k:Nat} (h0:0≤y) (h1:y≤1):0≤Go.Proofs.YtoednejlfbfciaaGreatDoor.Q.nearQ y k∧Go.Proofs.YtoednejlfbfciaaGreatDoor.Q.nearQ y k≤(k:Int):=by
 unfold Go.Proofs.YtoednejlfbfciaaGreatDoor.Q.nearQ
 have hd:=y.den_pos
 have hn:0≤y.num:=Rat.num_nonneg.2 h0
 have hle:y.num≤(y.den:Int):=by
  have h:=(Rat.le_iff y 1).1 h1
  simpa using h
 have hk:(0:Int)≤((k * 2:Nat):Int):=Int.natCast_nonneg _
 constructor
 ·refine Int.ediv_nonneg ?_ (Int.natCast_nonneg _)
  have:=Int.mul_nonneg hn hk
  omega
 ·have h2:=Int.mul_le_mul_of_nonneg_right hle hk
  have h3:(y.num * ((k * 2:Nat):Int)+(y.den:Int)) < ((k:Int)+1) * ((y.den * 2:Nat):Int):=by
   have e:((k:Int)+1) * ((y.den * 2:Nat):Int)=(y.den:Int) * ((k * 2:Nat):Int)+(y.den:Int)+(y.den:Int):=by
        push_cast;grind
   omega
  have:=Int.ediv_lt_of_lt_mul (show (0:Int) < ((y.den * 2:Nat):Int) by omega) h3
  omega
theorem Zwt {g:Int}:Go.Proofs.YtoednejlfbfciaaGreatDoor.Q.nearQ (mkRat g 10000) 10000=g:=by
 have e:Go.Proofs.YtoednejlfbfciaaGreatDoor.Q.nearQ (mkRat g 10000) 10000=(mkRat g 10000 * ((10000:Nat):Rat)+mkRat 1 2).floor:=Zph _
 have h1:mkRat g 10000 * ((10000:Nat):Rat)=(g:Rat):=by
  rw [Rat.mkRat_eq_div]
  have:((10000:Nat):Rat)=10000:=rfl
  rw [this];grind
 rw [e,h1,Rat.add_comm,Rat.floor_add_intCast]
 have:(mkRat 1 2).floor=0:=by decide +kernel
 omega
end Go.Sx
