/- Plain: strconv. -/
import Derived.Test.YtcgcjknkfalijaaGreatDoorPl
import Derived.Lib.AtoiAll
set_option maxHeartbeats 1000000
namespace Go.Sx
open Go
theorem Zdi:∀ (l:List UInt8) (acc:Nat),(∀ c∈l,isDig c=true)→acc≤18446744073709551615→Lib.parseUint10 acc l=if acc * 10 ^ l.length+numOf l≤18446744073709551615 then .ok (acc * 10 ^ l.length+numOf l) else .range
 | [],acc,_,h=>by simp [Lib.parseUint10,numOf,h]
 | c :: r,acc,hd,h=>by
  have hc:=Zfu.1 (hd c (List.mem_cons_self ..))
  have hp:0 < 10 ^ r.length:=Nat.pow_pos (by omega)
  have e:acc * 10 ^ (c::r).length+numOf (c::r)=(acc * 10+(c.toNat - 48)) * 10 ^ r.length+numOf r:=by
     rw [Zgw,dig,List.length_cons,Nat.pow_succ,Nat.add_mul,← Nat.mul_assoc,Nat.mul_right_comm acc]
     omega
  have hge:acc * 10+(c.toNat - 48)≤(acc * 10+(c.toNat - 48)) * 10 ^ r.length:=Nat.le_mul_of_pos_right _ hp
  rw [Lib.parseUint10,if_pos hc,e]
  by_cases h1:1844674407370955162≤acc
  ·rw [if_pos h1,if_neg (by omega)]
  ·rw [if_neg h1]
   by_cases h2:18446744073709551616≤acc * 10+(c.toNat - 48)
   ·rw [if_pos h2,if_neg (by omega)]
   ·rw [if_neg h2]
    exact Zdi r _ (fun x hx=>hd x (List.mem_cons_of_mem _ hx)) (by omega)
theorem Zs3 {s:List UInt8} {z:Int} (h:readW s=some z):Lib.atoiAll s=if -9223372036854775808≤z∧z≤9223372036854775807 then .ok z else .range:=by
 cases s with
 | nil=>simp [readW,Lib.hasPrefix] at h
 | cons c r =>
  unfold readW at h
  rw [Za2] at h
  unfold Lib.atoiAll
  simp only []
  have pU:∀ l:List UInt8,l≠[]→(∀ c∈l,isDig c=true)→Lib.parseMag l=if numOf l≤18446744073709551615 then .ok (numOf l) else .range:=fun l h0 h1=>by
   unfold Lib.parseMag
   rw [if_neg h0]
   have:=Zdi l 0 h1 (by omega)
   simpa using this
  by_cases hc:c=45
  ·subst hc
   simp only [decide_true,if_true,List.drop_succ_cons,List.drop_zero] at h
   split at h
   ·rename_i h5
    cases h
    have h45:(45:UInt8).toNat=45:=rfl
    rw [if_pos (.inr h45),pU r (by intro h0;rw [h0] at h5;simp at h5) h5.2.2.1]
    by_cases h6:numOf r≤18446744073709551615
    ·rw [if_pos h6]
     simp only [h45,not_true_eq_false,false_and,if_false,true_and]
     by_cases h7:9223372036854775808 < numOf r
     ·rw [if_pos h7,if_neg (by omega)]
     ·rw [if_neg h7]
      simp only [if_true]
      rw [if_pos (by omega)]
    ·rw [if_neg h6]
     simp only []
     rw [if_neg (by omega)]
   ·cases h
  ·simp only [hc,decide_false,Bool.false_eq_true,if_false] at h
   split at h
   ·rename_i h5
    cases h
    have hcd:=Zfu.1 (h5.2.2.1 c (List.mem_cons_self ..))
    have h45:¬ c.toNat=45:=by omega
    rw [if_neg (by omega),pU (c::r) (by simp) h5.2.2.1]
    by_cases h6:numOf (c::r)≤18446744073709551615
    ·rw [if_pos h6]
     simp only [h45,not_false_eq_true,true_and,false_and,if_false]
     by_cases h7:9223372036854775808≤numOf (c::r)
     ·rw [if_pos h7,if_neg (by omega)]
     ·rw [if_neg h7,if_pos (by omega)]
    ·rw [if_neg h6]
     simp only []
     rw [if_neg (by omega)]
   ·cases h
theorem Zov {z:Int} (h:-9223372036854775808≤z∧z≤9223372036854775807):Lib.atoiAll (textI z)=.ok z:=by
 rw [Zs3 (Zei (Nat.le_trans (Zda (k:=19) (by omega) (by omega)) (by decide))),if_pos h]
end Go.Sx
