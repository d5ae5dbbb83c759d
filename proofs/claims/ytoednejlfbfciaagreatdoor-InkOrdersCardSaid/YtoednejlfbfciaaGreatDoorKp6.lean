/- Plain: limits: the order of the parts, the parts' floors. -/
import Derived.Test.YtoednejlfbfciaaGreatDoorKp1
set_option maxHeartbeats 1000000
namespace Go.Sx
open Go
theorem Zfy {x y A B:Int} (hx:0≤x∧x≤A) (hy:0≤y∧y≤B):0≤x * y∧x * y≤A * B :=
 ⟨Int.mul_nonneg hx.1 hy.1,Int.mul_le_mul hx.2 hy.2 hy.1 (by omega)⟩
theorem Zge {x r s:Int} (hx:0≤x) (hxs:x≤s) (hr:0≤r):partI x r s * s≤x * r∧(0 < s→x * r < (partI x r s+1) * s):=by
 by_cases hs:0 < s
 ·exact ⟨(Zdq hx hs hr).2.1,fun _=>(Zdq hx hs hr).2.2⟩
 ·have e:s=0:=by omega
  have e2:x=0:=by omega
  subst e e2
  exact ⟨by simp,fun h=>absurd h (by decide)⟩
theorem Zre {a1 a2 a3 a4 n q1 q2 q3 q4:Int} (h1:0≤a1) (h2:0≤a2) (h3:0≤a3) (_h4:0≤a4) (_hn:0≤n) (hq:cutI ⟨a1,a2,a3,a4⟩ n=⟨q1,q2,q3,q4⟩) :
  ((a1≤a2→q1≤q2)∧(a1≤a3→q1≤q3)∧(a2≤a1→q2≤q1)∧(a2≤a3→q2≤q3)∧(a3≤a1→q3≤q1)∧(a3≤a2→q3≤q2)) ∧
  (¬ (q1=a1∧q2=a2∧q3=a3∧q4=a4)→(q1 * (a1+a2+a3)≤a1 * (n - q4)∧(0 < a1+a2+a3→a1 * (n - q4) < (q1+1) * (a1+a2+a3)))∧(q2 * (a1+a2+a3)≤a2 * (n - q4)∧(0 < a1+a2+a3→a2 * (n - q4) < (q2+1) * (a1+a2+a3))) ∧
   (q3 * (a1+a2+a3)≤a3 * (n - q4)∧(0 < a1+a2+a3→a3 * (n - q4) < (q3+1) * (a1+a2+a3)))):=by
 unfold cutI at hq
 by_cases ht:(⟨a1,a2,a3,a4⟩:Ink).tot≤n
 ·rw [if_pos ht] at hq
  obtain ⟨rfl,rfl,rfl,rfl⟩:=Ink.mk.inj hq
  exact ⟨⟨id,id,id,id,id,id⟩,fun h=>absurd ⟨rfl,rfl,rfl,rfl⟩ h⟩
 ·rw [if_neg ht] at hq
  have hs:0≤a1+a2+a3:=by omega
  obtain ⟨e1,e2,e3,e4⟩:=Ink.mk.inj hq
  have e1:partI a1 (n - min a4 n) (a1+a2+a3)=q1:=e1
  have e2:partI a2 (n - min a4 n) (a1+a2+a3)=q2:=e2
  have e3:partI a3 (n - min a4 n) (a1+a2+a3)=q3:=e3
  have e4:min a4 n=q4:=e4
  rw [e4] at e1 e2 e3
  have hr:0≤n - q4:=by omega
  subst e1 e2 e3
  exact ⟨⟨Zde hs hr,Zde hs hr,Zde hs hr,Zde hs hr,Zde hs hr,Zde hs hr⟩,fun _=>⟨Zge h1 (by omega) hr,Zge h2 (by omega) hr,Zge h3 (by omega) hr⟩⟩
end Go.Sx
