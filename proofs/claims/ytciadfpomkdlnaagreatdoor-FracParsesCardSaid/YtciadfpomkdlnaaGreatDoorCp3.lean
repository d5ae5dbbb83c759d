/- Plain: the text of a number with places is read back. -/
import Derived.Test.YtciadfpomkdlnaaGreatDoorCc7
set_option maxHeartbeats 1000000
namespace Go.Sx
open Go
theorem Zkv {s:List UInt8} {j:Nat}:Lib.occAt s [46] j=decide (s[j]?=some 46):=by
 unfold Lib.occAt
 rw [Bool.eq_iff_iff,decide_eq_true_eq]
 cases h:s.drop j with
 | nil =>
  have hj:s.length≤j:=by
   have:=congrArg List.length h
   rw [List.length_drop] at this
   simp at this;omega
  rw [List.getElem?_eq_none hj]
  simp [List.isPrefixOf]
 | cons c r =>
  have hc:s[j]?=some c:=by
   have:=List.getElem?_drop (xs:=s) (i:=j) (j:=0)
   rw [h] at this
   simpa using this.symm
  rw [hc]
  simp only [List.isPrefixOf,Bool.and_true,beq_iff_eq,Option.some.injEq]
  exact eq_comm
theorem Zk8 {a b:List UInt8} (h:∀ c∈a,c≠46):Lib.cut (a++[46]++b) [46]=(a,b,true):=by
 have hi:Lib.index (a++[46]++b) [46]=(a.length:Int):=by
  refine Lib.index_first (by simp) ?_ ?_
  ·rw [Zkv,decide_eq_true_eq]
   simp
  ·intro j hj
   rw [Zkv,decide_eq_false_iff_not,List.append_assoc,List.getElem?_append_left hj]
   intro hc
   exact h 46 (List.mem_of_getElem? hc) rfl
 unfold Lib.cut
 rw [hi,if_pos (by omega),Int.toNat_natCast]
 simp
theorem Zk7 {a:List UInt8} (h:∀ c∈a,c≠46):Lib.cut a [46]=(a,[],false):=by
 unfold Lib.cut
 rw [if_neg]
 rcases Lib.index_spec a [46] with ⟨h1,_⟩|⟨i,h1,h2,h3,_⟩
 ·omega
 ·rw [Zkv,decide_eq_true_eq] at h3
  exact absurd rfl (h 46 (List.mem_of_getElem? h3))
theorem Zmg {c:UInt8} (h:isDig c=true):c≠46:=by
 rintro rfl;exact absurd h (by decide)
theorem Zk5 {l:List UInt8} (h0:l≠[]) (h:∀ c∈l,isDig c=true):digS l=true:=by
 rw [Zk6]
 refine ⟨h0,fun c hc=>?_⟩
 have:=h c hc
 simpa [isDig] using this
end Go.Sx
namespace Go.Proofs.YtciadfpomkdlnaaGreatDoor.Q
open Go Go.Sx
theorem Zpi {s:List UInt8}:((Lib.cut s [46]).2.2=true→s=(Lib.cut s [46]).1++[46]++(Lib.cut s [46]).2.1)∧((Lib.cut s [46]).2.2=false→s=(Lib.cut s [46]).1∧(Lib.cut s [46]).2.1=[]):=by
 unfold Lib.cut
 split
 ·rename_i h0
  refine ⟨fun _=>?_,fun h=>(by cases h)⟩
  have hsp:=Lib.index_spec s [46]
  rcases hsp with hsp|hsp
  ·have:=hsp.1;omega
  ·obtain ⟨i,h1,h2,h3,_⟩:=hsp
   simp only [h1,Int.toNat_natCast]
   rw [Zkv,decide_eq_true_eq] at h3
   have hlt:i < s.length:=(List.getElem?_eq_some_iff.1 h3).1
   have e:s.drop i=46::s.drop (i+1):=by
    rw [List.drop_eq_getElem_cons hlt]
    rw [List.getElem?_eq_getElem hlt,Option.some.injEq] at h3
    rw [h3]
   rw [List.append_assoc,List.singleton_append]
   show s=s.take i++46::s.drop (i+1)
   rw [← e,List.take_append_drop]
 ·exact ⟨fun h=>(by cases h),fun _=>⟨rfl,rfl⟩⟩
theorem Zge {l:List UInt8} (h:digS l=true):l≠[]∧∀ c∈l,isDig c=true:=by
 rw [Zk6] at h
 exact ⟨h.1,fun c hc=>by have:=h.2 c hc;simp [isDig,this]⟩
end Go.Proofs.YtciadfpomkdlnaaGreatDoor.Q
