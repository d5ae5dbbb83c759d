/- Plain: the value of a table of numbers. -/
import Derived.Test.YtoednejlfbfciaaGreatDoorKp2
set_option maxHeartbeats 1000000
namespace Go.Sx
open Go
def tabP (l:List Int) (x:Rat):Rat:=x * (((l.length:Int) - 1:Int):Rat)
def tabI (l:List Int) (x:Rat):Int:=min (max (tabP l x).floor 0) ((l.length:Int) - 2)
def tabA (l:List Int) (x:Rat):Int:=(l[(tabI l x).toNat]?).getD 0
def tabB (l:List Int) (x:Rat):Int:=(l[(tabI l x).toNat+1]?).getD 0
def tabQ (l:List Int) (x:Rat):Rat:=((tabA l x:Rat)+((tabB l x - tabA l x:Int):Rat) * (tabP l x - (tabI l x:Rat))) * (65535:Rat)⁻¹
theorem Ztr (p:Rat):(p.floor:Rat)≤p:=Rat.floor_le p
theorem Ztf (p:Rat):p < ((p.floor+1:Int):Rat):=Rat.floor_lt_iff.1 (by omega)
theorem Zhy {l:List Int} {x:Rat} (hn:2≤l.length) (h0:0≤x) (h1:x≤1):0≤tabP l x∧tabP l x≤(((l.length:Int) - 1:Int):Rat):=by
 have hm:(0:Rat)≤(((l.length:Int) - 1:Int):Rat):=by
  have:(((0:Int)):Rat)≤(((l.length:Int) - 1:Int):Rat):=Rat.intCast_le_intCast.2 (by omega)
  exact this
 unfold tabP
 generalize (((l.length:Int) - 1:Int):Rat)=m at hm ⊢
 refine ⟨Rat.mul_nonneg h0 hm,?_⟩
 have:=Rat.mul_le_mul_of_nonneg_right h1 hm
 grind
theorem Zgg {l:List Int} {x:Rat} (hn:2≤l.length):0≤tabI l x∧tabI l x+2≤(l.length:Int):=by
 unfold tabI
 omega
theorem Zx8 {l:List Int} {x:Rat} (hn:2≤l.length) (h0:0≤x) (h1:x≤1):0≤tabP l x - (tabI l x:Rat)∧tabP l x - (tabI l x:Rat)≤1:=by
 obtain ⟨p0,p1⟩:=Zhy hn h0 h1
 have f0:=Ztr (tabP l x)
 have f1:=Ztf (tabP l x)
 have g0:0≤(tabP l x).floor:=Rat.le_floor_iff.2 p0
 unfold tabI
 generalize tabP l x=p at *
 by_cases h:p.floor≤(l.length:Int) - 2
 ·rw [show min (max p.floor 0) ((l.length:Int) - 2)=p.floor by omega]
  rw [Rat.intCast_add] at f1
  have:((1:Int):Rat)=1:=rfl
  rw [this] at f1
  constructor<;>grind
 ·rw [show min (max p.floor 0) ((l.length:Int) - 2)=(l.length:Int) - 2 by omega]
  have h2:(((l.length:Int) - 1:Int):Rat)≤(p.floor:Rat):=Rat.intCast_le_intCast.2 (by omega)
  have e:(((l.length:Int) - 2:Int):Rat)=(((l.length:Int) - 1:Int):Rat) - 1:=by
   rw [show (l.length:Int) - 2=((l.length:Int) - 1) - 1 by omega,Rat.intCast_sub];rfl
  rw [e]
  constructor<;>grind
theorem Z0h {a b m r:Rat} (a0:0≤a) (a1:a≤m) (b0:0≤b) (b1:b≤m) (r0:0≤r) (r1:r≤1):0≤a+(b - a) * r∧a+(b - a) * r≤m:=by
 have e:a+(b - a) * r=a * (1 - r)+b * r:=by grind
 have h1:=Rat.mul_nonneg a0 (show 0≤1 - r by grind)
 have h2:=Rat.mul_nonneg b0 r0
 have h3:=Rat.mul_le_mul_of_nonneg_right a1 (show 0≤1 - r by grind)
 have h4:=Rat.mul_le_mul_of_nonneg_right b1 r0
 rw [e]
 constructor<;>grind
theorem Zzx {l:List Int} {x:Rat} (hn:2≤l.length) (hl:∀ v∈l,0≤v∧v≤65535) (h0:0≤x) (h1:x≤1):0≤tabQ l x∧tabQ l x≤1:=by
 obtain ⟨i0,i1⟩:=Zgg (x:=x) hn
 obtain ⟨r0,r1⟩:=Zx8 hn h0 h1
 have hA:0≤tabA l x∧tabA l x≤65535:=by
  unfold tabA
  rw [List.getElem?_eq_getElem (by omega)]
  exact hl _ (List.getElem_mem _)
 have hB:0≤tabB l x∧tabB l x≤65535:=by
  unfold tabB
  rw [List.getElem?_eq_getElem (by omega)]
  exact hl _ (List.getElem_mem _)
 have c0:∀ z:Int,0≤z∧z≤65535→(0:Rat)≤(z:Rat)∧(z:Rat)≤65535:=fun z h =>
  ⟨Rat.intCast_nonneg.2 h.1,(Rat.intCast_le_intCast (b:=65535)).2 h.2⟩
 have m:=Z0h (c0 _ hA).1 (c0 _ hA).2 (c0 _ hB).1 (c0 _ hB).2 r0 r1
 unfold tabQ
 rw [Rat.intCast_sub]
 generalize (tabA l x:Rat)+((tabB l x:Rat) - (tabA l x:Rat)) * (tabP l x - (tabI l x:Rat))=y at m ⊢
 have k0:(0:Rat)≤(65535:Rat)⁻¹:=by decide +kernel
 have k1:(65535:Rat) * (65535:Rat)⁻¹=1:=by decide +kernel
 have n1:=Rat.mul_nonneg m.1 k0
 have n2:=Rat.mul_le_mul_of_nonneg_right m.2 k0
 rw [k1] at n2
 exact ⟨n1,n2⟩
theorem Zqp {l:List Int} {x:Rat} (h0:0≤tabP l x) {i:Nat} (hi:(i:Int)+2≤(l.length:Int)) (hlt:∀ k:Nat,k < i→¬ tabP l x < (((k:Int)+1:Int):Rat)) (hs:(i:Int)+2=(l.length:Int)∨tabP l x < (((i:Int)+1:Int):Rat)):tabI l x=(i:Int):=by
 have g0:0≤(tabP l x).floor:=Rat.le_floor_iff.2 h0
 have h1:(i:Int)≤(tabP l x).floor:=by
  cases i with
  | zero=>exact g0
  | succ i =>
   have:=Rat.not_lt.1 (hlt i (by omega))
   exact Rat.le_floor_iff.2 (by rw [show ((i+1:Nat):Int)=(i:Int)+1 from rfl];exact this)
 unfold tabI
 rcases hs with hs|hs
 ·omega
 ·have:=Rat.floor_lt_iff.2 hs
  omega
theorem Zvl {x:Rat}:tabQ [0,0] x=0:=by
 have hA:tabA [0,0] x=0:=by
  unfold tabA
  have:=Zgg (l:=[0,0]) (x:=x) (by decide)
  simp only [List.length_cons,List.length_nil] at this
  rw [show tabI [0,0] x=0 by omega];rfl
 have hB:tabB [0,0] x=0:=by
  unfold tabB
  have:=Zgg (l:=[0,0]) (x:=x) (by decide)
  simp only [List.length_cons,List.length_nil] at this
  rw [show tabI [0,0] x=0 by omega];rfl
 unfold tabQ
 rw [hA,hB]
 have:((0 - 0:Int):Rat)=0:=rfl
 have h2:((0:Int):Rat)=0:=rfl
 rw [this,h2]
 grind
end Go.Sx
