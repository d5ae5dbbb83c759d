/- Plain: amounts of ink cut to a greatest total. -/
import Derived.Test.YtoednejlfbfciaaGreatDoorSx9
set_option maxHeartbeats 1000000
namespace Go.Sx
open Go
structure Ink where
 c:Int
 m:Int
 y:Int
 k:Int
deriving DecidableEq
def Ink.ok (a:Ink):Prop:=0≤a.c∧0≤a.m∧0≤a.y∧0≤a.k
def Ink.three (a:Ink):Int:=a.c+a.m+a.y
def Ink.tot (a:Ink):Int:=a.c+a.m+a.y+a.k
def partI (x r s:Int):Int:=if s=0 then 0 else x * r / s
def cutK (a:Ink) (n:Int):Int:=min a.k n
def cutI (a:Ink) (n:Int):Ink:=if a.tot≤n then a else ⟨partI a.c (n - cutK a n) a.three,partI a.m (n - cutK a n) a.three,partI a.y (n - cutK a n) a.three,cutK a n⟩
theorem Zfm {x r s:Int} (hx:0≤x) (hs:0 < s) (hr:0≤r):0≤partI x r s∧partI x r s * s≤x * r∧x * r < (partI x r s+1) * s:=by
 unfold partI
 rw [if_neg (by omega)]
 have h0:0≤x * r:=Int.mul_nonneg hx hr
 have h1:=Int.mul_ediv_add_emod (x * r) s
 have h2:=Int.emod_nonneg (x * r) (show s≠0 by omega)
 have h3:=Int.emod_lt_of_pos (x * r) hs
 have h4:=Int.ediv_nonneg h0 (Int.le_of_lt hs)
 rw [Int.mul_comm] at h1
 rw [Int.add_mul,Int.one_mul]
 generalize x * r / s * s=P at *
 exact ⟨h4,by omega,by omega⟩
theorem Zss {a:Ink} {n:Int} (ha:a.ok) (_hn:0≤n) (h:¬ a.tot≤n):0≤n - cutK a n∧(0 < a.three→n - cutK a n≤a.three)∧(a.three=0→n - cutK a n=0):=by
 obtain ⟨h1,h2,h3,h4⟩:=ha
 unfold cutK Ink.three
 unfold Ink.tot at h
 omega
theorem Zgm {x r s:Int} (hx:0≤x) (hs:0 < s) (hr:0≤r) (hrs:r≤s):partI x r s≤x:=by
 obtain ⟨h1,h2,h3⟩:=Zfm hx hs hr
 have h4:=Int.mul_le_mul_of_nonneg_left hrs hx
 rcases Int.lt_or_le x (partI x r s) with h|h
 ·have:=Int.mul_le_mul_of_nonneg_right (show x+1≤partI x r s by omega) (Int.le_of_lt hs)
  rw [Int.add_mul,Int.one_mul] at this
  omega
 ·exact h
theorem Zlx {a:Ink} (ha:a.ok):a.three=0∨0 < a.three:=by
 obtain ⟨h1,h2,h3,h4⟩:=ha
 unfold Ink.three;omega
theorem Zwq {a:Ink} {n:Int} (ha:a.ok) (hn:0≤n):(cutI a n).ok∧(cutI a n).c≤a.c∧(cutI a n).m≤a.m∧(cutI a n).y≤a.y∧(cutI a n).k≤a.k:=by
 unfold cutI
 by_cases h:a.tot≤n
 ·rw [if_pos h];exact ⟨ha,Int.le_refl _,Int.le_refl _,Int.le_refl _,Int.le_refl _⟩
 ·rw [if_neg h]
  obtain ⟨r0,r1,r2⟩:=Zss ha hn h
  have hk:0≤cutK a n∧cutK a n≤a.k:=by have:=ha.2.2.2;unfold cutK;omega
  obtain ⟨h1,h2,h3,h4⟩:=ha
  rcases Zlx ⟨h1,h2,h3,h4⟩ with hs|hs
  ·unfold partI Ink.ok
   rw [hs,if_pos rfl,if_pos rfl,if_pos rfl]
   exact ⟨⟨Int.le_refl 0,Int.le_refl 0,Int.le_refl 0,hk.1⟩,h1,h2,h3,hk.2⟩
  ·exact ⟨⟨(Zfm h1 hs r0).1,(Zfm h2 hs r0).1,(Zfm h3 hs r0).1,hk.1⟩,Zgm h1 hs r0 (r1 hs),Zgm h2 hs r0 (r1 hs),Zgm h3 hs r0 (r1 hs),hk.2⟩
theorem Zt0 {a:Ink} {n:Int} (ha:a.ok) (hn:0≤n):(cutI a n).tot≤n∧(¬ a.tot≤n→(cutI a n).k=min a.k n∧(a.three=0∨n - 3≤(cutI a n).tot)):=by
 unfold cutI
 by_cases h:a.tot≤n
 ·rw [if_pos h];exact ⟨h,fun h'=>absurd h h'⟩
 ·rw [if_neg h]
  obtain ⟨r0,r1,r2⟩:=Zss ha hn h
  have hk:cutK a n≤n:=by unfold cutK;omega
  obtain ⟨h1,h2,h3,h4⟩:=ha
  rcases Zlx ⟨h1,h2,h3,h4⟩ with hs|hs
  ·refine ⟨?_,fun _=>⟨rfl,.inl hs⟩⟩
   unfold partI Ink.tot
   rw [hs,if_pos rfl,if_pos rfl,if_pos rfl]
   simp only
   omega
  ·obtain ⟨p1,p2,p3⟩:=Zfm h1 hs r0
   obtain ⟨q1,q2,q3⟩:=Zfm h2 hs r0
   obtain ⟨t1,t2,t3⟩:=Zfm h3 hs r0
   have e:a.c * (n - cutK a n)+a.m * (n - cutK a n)+a.y * (n - cutK a n)=a.three * (n - cutK a n):=by unfold Ink.three;grind
   unfold Ink.tot
   simp only
   generalize partI a.c (n - cutK a n) a.three=P at *
   generalize partI a.m (n - cutK a n) a.three=Q at *
   generalize partI a.y (n - cutK a n) a.three=T at *
   have key:(P+Q+T) * a.three≤(n - cutK a n) * a.three:=by
        rw [Int.add_mul,Int.add_mul,Int.mul_comm (n - cutK a n) a.three];omega
   have key2:(n - cutK a n) * a.three < (P+Q+T+3) * a.three:=by
        have:(P+Q+T+3) * a.three=(P+1) * a.three+(Q+1) * a.three+(T+1) * a.three:=by grind
        rw [this,Int.mul_comm (n - cutK a n) a.three];omega
   have k1:=Int.le_of_mul_le_mul_right key hs
   have k2:=Int.lt_of_mul_lt_mul_right key2 (Int.le_of_lt hs)
   exact ⟨by omega,fun _=>⟨rfl,.inr (by omega)⟩⟩
end Go.Sx
