/- Walks: the library's functions on lines: SplitAfter, Join, ReplaceAll, Replace, TrimSuffix. -/
import Derived.Test.YtciadfpomkdlnaaGreatDoorPl1
import Derived.Test.YtciadfpomkdlnaaGreatDoorPpa
set_option maxHeartbeats 1000000
namespace Go.Proofs.YtciadfpomkdlnaaGreatDoor.Q
open Go Go.Sx Go.RowKit
variable {w0:World} {As:List Ent}
theorem Zqo (hm:LenR w0) {s:List UInt8} (hl:s.length≤1000000000):CallsS Tryz.prog w0 108 [.string ⟨s.toArray⟩,.string ⟨#[10]⟩,.int .i64 1,.int .i64 (-1)] As fun u Bs=>Bs=.ow cW 9 u (addNl (linesL s))::As :=
 CallsS.mk fun w hs=>by
  obtain ⟨m,h0⟩:=hm.keep hs
  have hsz:(⟨s.toArray⟩:ByteArray).size=s.length:=by simp [ByteArray.size]
  have hle:=Lib.countB_le ⟨#[10]⟩ (by decide) s.length ⟨s.toArray⟩ (by rw [hsz];exact Nat.le_refl _)
  have hall:=Lib.splitB_all ⟨#[10]⟩ (by decide) 1 _ ⟨s.toArray⟩ rfl
  refine (Tryz.strings_genSplit ⟨s.toArray⟩ ⟨#[10]⟩ 1 (-1) (Lib.countB ⟨s.toArray⟩ ⟨#[10]⟩+1) m w (by rw [hsz];omega) h0 (by decide) (by decide) (by decide) (by decide) (by rw [if_pos (by decide)];omega)).mono fun en w' ⟨h1,h2⟩=>?_
  subst h2
  rw [Nat.add_sub_cancel,hall] at h1
  rw [Nat.add_sub_cancel]
  have e2:Lib.cellsOf (Lib.splitB ⟨#[10]⟩ 1 (Lib.countB ⟨s.toArray⟩ ⟨#[10]⟩) ⟨s.toArray⟩) (Lib.countB ⟨s.toArray⟩ ⟨#[10]⟩+1)=((Lib.splitB ⟨#[10]⟩ 1 (Lib.countB ⟨s.toArray⟩ ⟨#[10]⟩) ⟨s.toArray⟩).map Value.string).toArray:=by rw [← hall];exact Lib.cellsOf_full _
  rw [e2]
  rw [Zcw,← Zds] at h1
  refine ⟨_,_,h1,rfl,?_⟩
  refine Zkk (cur:=((Lib.splitB ⟨#[10]⟩ 1 (Lib.countB ⟨s.toArray⟩ ⟨#[10]⟩) ⟨s.toArray⟩).map Value.string).toArray) hs (Below.alloc (Below.refl _ _) (Nat.le_refl _) _) (Nat.le_refl _) ?_ (Nat.le_refl _) ?_ ?_
  ·show (w.heap.push _)[w.heap.size]?=_
   rw [Array.getElem?_push_size]
  ·rw [Zih];show _=1 * _;simp
  ·rw [Zih,Zz3]
   show List.take (1 * _) _=_
   rw [Nat.one_mul]
   exact List.take_of_length_le (by simp)
theorem Zg1 (hm:LenR w0) {s:List UInt8} (hl:s.length≤1000000000):CallsS Tryz.prog w0 39 [.string ⟨s.toArray⟩,.string ⟨#[10]⟩] As fun u Bs=>∃ p c,u=.slice p (addNl (linesL s)).length c∧Bs=.ow cW 9 u (addNl (linesL s))::As:=by
 refine Zf3 (α:=List UInt8) (cd:=cW) ?_ fun v Bs h=>by rw [h];infer_instance
 refine Zab Tryz.func39 rfl Tryz.ntmps39 rfl ?_
 repeat' first|refine Kz ?_|intro _
 refine TL.callv rfl rfl rfl rfl (Zqo hm hl) ?_
 rintro _ _ rfl
 repeat' first|refine Kz ?_|intro _
 (refine Zac ?_)
 exact ⟨_,rfl,Zaa⟩
theorem Zr9 {v:Value} {xs:List (List UInt8)} [hr:RdIn As v (List UInt8) cW xs] (h0:xs≠[]) (h1:xs.length≤1000000000) (h2:xs.flatten.length≤1000000000) :
  CallsS Tryz.prog w0 41 [v,.string ⟨#[]⟩] As fun u Bs=>u=.string ⟨xs.flatten.toArray⟩∧Bs=As :=
 CallsS.mk fun w hs=>by
  rcases hr.get w0 w hs with ⟨_,e⟩|⟨b,off,cap,front,rest,T,fr,rfl,g2,g3,g4⟩
  ·exact absurd e h0
  ·have hmap:(xs.map fun x=>(⟨x.toArray⟩:ByteArray)).map (·.data.toList)=xs:=by
    rw [List.map_map]
    have:((fun x:ByteArray=>x.data.toList) ∘ fun x:List UInt8=>(⟨x.toArray⟩:ByteArray))=id:=by funext x;rfl
    rw [this,List.map_id]
   have hc:=Tryz.strings_Join b off cap (xs.map fun x=>(⟨x.toArray⟩:ByteArray)) ⟨#[]⟩ w (fun j x hx=>by
    rw [List.getElem?_map] at hx
    cases hy:xs[j]? with
    | none=>rw [hy] at hx;cases hx
    | some y =>
     rw [hy] at hx
     cases hx
     have h3:(cW.flat xs)[j]?=some (.string ⟨y.toArray⟩):=by
      rw [Zz3,List.map_map,List.getElem?_map,hy];rfl
     have h4:(front++cW.flat xs++rest)[off+j]?=some (.string ⟨y.toArray⟩):=by
      rw [List.append_assoc,List.getElem?_append_right (by omega),List.getElem?_append_left (by rw [show off+j - front.length=j by omega];exact (List.getElem?_eq_some_iff.1 h3).1),show off+j - front.length=j by omega,h3]
     rw [List.append_assoc] at h4
     simp [World.cell?,g4,h4]) (Array.getElem?_eq_some_iff.1 g4).1 (by rw [List.length_map];omega) (by rw [List.length_map];exact g3) (by rw [hmap];show (Lib.join xs []).length≤_;rw [Zh2];omega)
   rw [hmap,List.length_map] at hc
   refine hc.mono fun en w' ⟨k1,k2⟩=>?_
   rw [show Lib.join xs (⟨#[]⟩:ByteArray).data.toList=xs.flatten from Zh2 xs] at k1
   exact ⟨_,As,k1,⟨rfl,rfl⟩,hs.below k2⟩
theorem Zmn (hm:LenR w0) {s:List UInt8} (hl:s.length≤1000000):CallsS Tryz.prog w0 40 [.string ⟨s.toArray⟩,.string ⟨#[32]⟩,.string ⟨#[32,9]⟩] As fun u Bs=>u=.string ⟨(wideL s).toArray⟩∧Bs=As :=
 CallsS.mk fun w hs=>by
  obtain ⟨m,h0⟩:=hm.keep hs
  have hsz:(⟨s.toArray⟩:ByteArray).size=s.length:=by simp [ByteArray.size]
  have hle:=Lib.countB_le ⟨#[32]⟩ (by decide) s.length ⟨s.toArray⟩ (by rw [hsz];exact Nat.le_refl _)
  refine (Tryz.strings_ReplaceAll ⟨s.toArray⟩ ⟨#[32]⟩ ⟨#[32,9]⟩ m w (by rw [hsz];omega) h0 (by decide) (by rw [hsz] at hle ⊢;show s.length+_ * 2≤_;omega)).mono fun en w' ⟨k1,k2⟩=>?_
  have e:Lib.replaceAll (⟨s.toArray⟩:ByteArray).data.toList (⟨#[32]⟩:ByteArray).data.toList (⟨#[32,9]⟩:ByteArray).data.toList=wideL s:=Zn1 s
  rw [e] at k1
  exact ⟨_,As,k1,⟨rfl,rfl⟩,hs.below k2⟩
theorem Zjv (hm:LenR w0) {w r new:List UInt8} (hl:(w++32::r).length≤1000000) (hn:([32] == new)=false) (hnl:new.length≤10) (hw:∀ c∈w,c≠32) :
  CallsS Tryz.prog w0 35 [.string ⟨(w++32::r).toArray⟩,.string ⟨#[32]⟩,.string ⟨new.toArray⟩,.int .i64 1] As fun u Bs=>u=.string ⟨(w++new++r).toArray⟩∧Bs=As :=
 CallsS.mk fun W hs=>by
  obtain ⟨m,h0⟩:=hm.keep hs
  obtain ⟨s,hsd⟩:∃ s,s=w++32::r:=⟨_,rfl⟩
  rw [← hsd] at hl ⊢
  have hsz:(⟨s.toArray⟩:ByteArray).size=s.length:=by simp [ByteArray.size]
  have hnz:(⟨new.toArray⟩:ByteArray).size=new.length:=by simp [ByteArray.size]
  have hle:=Lib.countB_le ⟨#[32]⟩ (by decide) s.length ⟨s.toArray⟩ (by rw [hsz];exact Nat.le_refl _)
  have hmul:Lib.countB ⟨s.toArray⟩ ⟨#[32]⟩ * new.length≤s.length * 10:=Nat.mul_le_mul (by rw [hsz] at hle;exact hle) hnl
  refine (Tryz.strings_Replace ⟨s.toArray⟩ ⟨#[32]⟩ ⟨new.toArray⟩ 1 m W (by rw [hsz];omega) h0 (by decide) (by rw [hsz,hnz];omega)).mono fun en w' ⟨k1,k2⟩=>?_
  have e:Lib.replace (⟨s.toArray⟩:ByteArray).data.toList (⟨#[32]⟩:ByteArray).data.toList (⟨new.toArray⟩:ByteArray).data.toList 1=w++new++r:=by
   show Lib.replace s [32] new 1=_
   rw [hsd];exact Zmm hw hn
  rw [e] at k1
  exact ⟨_,As,k1,⟨rfl,rfl⟩,hs.below k2⟩
theorem Zmg {x:List UInt8} (hl:x.length≤1000000):CallsS Tryz.prog w0 42 [.string ⟨(x++[10]).toArray⟩,.string ⟨#[10]⟩] As fun u Bs=>u=.string ⟨x.toArray⟩∧Bs=As :=
 CallsS.mk fun w hs=>by
  obtain ⟨s,hsd⟩:∃ s,s=x++[10]:=⟨_,rfl⟩
  have hsl:s.length=x.length+1:=by rw [hsd];simp
  have ht:Lib.trimSuffix s [10]=x:=by rw [hsd];exact Zyu
  rw [← hsd]
  clear hsd
  have hsz:(⟨s.toArray⟩:ByteArray).size=s.length:=by simp [ByteArray.size]
  refine (Tryz.strings_TrimSuffix ⟨s.toArray⟩ ⟨#[10]⟩ w (by rw [hsz];omega)).mono fun en w' ⟨k1,k2⟩=>?_
  subst k2
  rw [show Lib.trimSuffix (⟨s.toArray⟩:ByteArray).data.toList (⟨#[10]⟩:ByteArray).data.toList=x from ht] at k1
  exact ⟨_,As,k1,⟨rfl,rfl⟩,hs⟩
end Go.Proofs.YtciadfpomkdlnaaGreatDoor.Q
