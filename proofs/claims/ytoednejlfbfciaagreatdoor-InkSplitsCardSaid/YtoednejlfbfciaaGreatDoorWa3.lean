/- Walks: magnitudes: the decimal digits, the text. -/
import Derived.Test.YtoednejlfbfciaaGreatDoorWa1
import Derived.Test.YtoednejlfbfciaaGreatDoorPl
set_option maxHeartbeats 1000000
namespace Go.Proofs.YtoednejlfbfciaaGreatDoor
open Go Go.Sx
variable {w0:World} {As:List Ent}
end Go.Proofs.YtoednejlfbfciaaGreatDoor
namespace Go.Proofs.YtoednejlfbfciaaGreatDoor
open Go Go.Sx
variable {w0:World} {As:List Ent}
theorem Zig {l:List UInt8} (hd:∀ c∈l,isDig c=true) (h0:0 < l.length) (hl:l.length≤1000) :
  CallsS Tryz.prog w0 180 [.string ⟨l.toArray⟩] As (MagR As (numOf l)):=by
 refine Zfn ?_
 refine Zab Tryz.func180 rfl Tryz.ntmps180 rfl ?_
 repeat' first|refine Kz ?_|intro _
 refine Tri.loop (ι:=Value × List Nat × Nat) (fun s=>0 < s.2.2∧s.2.2≤l.length∧s.2.1++grp (l.take s.2.2)=grp l∧s.2.1.length+s.2.2≤l.length) (fun s=>s.2.2)
  (fun s=>[(0,.string ⟨l.toArray⟩),(3,s.1),(4,.int .i64 (s.2.2:Int))]) (fun s=>.ow (cN .u32) 46 s.1 s.2.1::As) (.slice none 0 0,[],l.length) ⟨h0,Nat.le_refl _,by simp,by simp⟩ Zae (Za2 _) ?_
 rintro ⟨mv,g,en⟩ ⟨hen0,hen,hg,hgl⟩
 simp only at hen0 hen hg hgl
 show Tri _ _ _ _ [(0,_),(3,mv),(4,.int .i64 (en:Int))] (.ow (cN .u32) 46 mv g::As) _
 obtain ⟨st,hst⟩:∃ st:Nat,(if (en:Int) - 9 < 0 then 0 else (en:Int) - 9)=(st:Int):=⟨en - 9,by split<;>omega⟩
 have hst2:st=en - 9:=by split at hst<;>omega
 repeat' first|refine Kz ?_|intro _
 rw [hst]
 repeat' first|refine Kz ?_|intro _
 refine Tri.loop (ι:=Nat) (fun i=>st≤i∧i≤en) (fun i=>en - i)
  (fun i=>[(0,.string ⟨l.toArray⟩),(3,mv),(4,.int .i64 (en:Int)),(5,.int .i64 (st:Int)),(6,.int .u32 (numOf ((l.take i).drop st):Nat)),(7,.int .i64 (i:Int))]) (fun _=>.ow (cN .u32) 46 mv g::As) st ⟨Nat.le_refl _,by omega⟩ ?_ Zaa ?_
 ·rw [show numOf ((l.take st).drop st)=0 by rw [List.drop_eq_nil_of_le (by simp;omega)];rfl]
  (exact Zae)
 ·intro i ⟨hi1,hi2⟩
  repeat' first|refine Kz ?_|intro _
  (refine Kx (fun hc=>?_) fun hc=>?_)
  ·obtain ⟨c,hc'⟩:∃ c,l[i]?=some c:=⟨_,List.getElem?_eq_getElem (by omega)⟩
   have hcd:=Zf6.1 (hd c (List.mem_of_getElem? hc'))
   have hi3:=(List.getElem?_eq_some_iff.1 hc').1
   have e1:(l.take (i+1)).drop st=(l.take i).drop st++[c]:=by
        rw [List.take_succ_eq_append_getElem hi3,(List.getElem?_eq_some_iff.1 hc').2,List.drop_append_of_le_length (by simp;omega)]
   have e2:=Zcg (l:=(l.take i).drop st) fun c hc=>hd c (List.mem_of_mem_take (List.mem_of_mem_drop hc))
   have e3:((l.take i).drop st).length≤8:=by simp;omega
   have e4:=Nat.pow_le_pow_right (n:=10) (by omega) e3
   repeat' first|refine Kz ?_|intro _
   refine Post.round (i+1) ⟨by omega,by omega⟩ (by omega) ?_ Zaa
   rw [show ((numOf ((l.take (i+1)).drop st):Nat):Int)=(numOf ((l.take i).drop st):Int) * 10+((c.toNat:Int) - 48) by rw [e1,Zcc,dig];omega]
   (exact Zae)
  ·have hie:i=en:=by omega
   subst hie
   have hgl2:g.length≤1000:=by omega
   repeat' first|refine Kz ?_|intro _
   (refine Kx (fun hc=>?_) fun hc=>?_)
   ·have hst0:st=0:=by omega
    subst hst0
    have e1:g++[numOf (l.take i)]=grp l:=by rw [← hg,Zpv (by simp;omega)]
    rw [List.drop_zero,e1]
    obtain ⟨k1,k2⟩:=Zpu l.length (Nat.le_refl _) hd
    have k3:(grp l).length≤1001:=by rw [← e1];simp;omega
    repeat' first|refine Kz ?_|intro _
    rename_i mv2
    refine TL.ents Ents.freeze ?_
    refine TL.call rfl rfl rfl (Zel k2 (by omega)) ?_
    rintro _ _ ⟨p,cap,rfl,rfl⟩
    rw [k1]
    repeat' first|refine Kz ?_|intro _
    (refine Zac ?_)
    exact ⟨_,rfl,Zaa⟩
   ·have e2:grp (l.take i)=numOf ((l.take i).drop (i - 9))::grp (l.take (i - 9)):=by
        rw [Zto (by simp;omega)]
        simp only [List.length_take,Nat.min_eq_left hen,List.take_take]
        rw [Nat.min_eq_left (by omega)]
    repeat' first|refine Kz ?_|intro _
    rename_i mv2
    refine Post.round (mv2,g++[numOf ((l.take i).drop st)],i - 9) ⟨by simp only;omega,by simp only;omega,by simp only;rw [← hg,e2,hst2];simp,by simp;omega⟩ (by simp only;omega) ?_ Zaa
    rw [show ((i - 9:Nat):Int)=(i:Int) - 9 by omega]
    (exact Zae)
def ReadR (As:List Ent) (r:Option Int) (u:Value) (Bs:List Ent):Prop:=∃ p cap,u=.tuple #[.agg #[.slice p (mag (r.getD 0).natAbs).length cap,.bool (decide (r.getD 0 < 0))],.bool r.isSome]∧Bs=.ft (rd (cN .u32) (.slice p (mag (r.getD 0).natAbs).length cap) (mag (r.getD 0).natAbs))::As
theorem Zqx:∃ As',ReadR As none (.tuple #[.agg #[.slice none 0 0,.bool false],.bool false]) As'∧Ents As As' :=
 ⟨_,⟨none,0,by simp [Zaq],rfl⟩,fun w0 w ⟨H,bs,g⟩=>⟨H,bs,g.size,g.os,g.tape,g.output,g.fz,g.old,⟨.inl ⟨⟨_,by simp [Zaq];rfl⟩,by simp [Zaq]⟩,g.sat⟩,g.nd,g.ap⟩⟩
theorem Zbw {s:List UInt8} (_hl:s.length≤1000000000):CallsS Tryz.prog w0 147 [.string ⟨s.toArray⟩] As (ReadR As (readW s)):=by
 refine Zab Tryz.func147 rfl Tryz.ntmps147 rfl ?_
 repeat' first|refine Kz ?_|intro _
 refine TL.call rfl rfl rfl Zg7 ?_
 rintro _ As ⟨rfl,rfl⟩
 obtain ⟨neg,hneg⟩:∃ neg,Lib.hasPrefix s [45]=neg:=⟨_,rfl⟩
 obtain ⟨l,hll⟩:∃ l,Lib.trimPrefix s [45]=l:=⟨_,rfl⟩
 rw [hneg,hll]
 have hle:l.length≤s.length:=by rw [← hll,Lib.trimPrefix];split<;>simp
 have hrw:=Zf1 hneg hll
 have hbad:∀ {e:Env} {Bs:List Ent},¬ (0 < l.length∧l.length≤600∧(∀ c∈l,isDig c=true)∧(l[0]?=some 48→neg=false∧l.length=1))→Ents Bs As →
   ∃ As',ReadR As (readW s) (.tuple #[.agg #[.slice none 0 0,.bool false],.bool false]) As'∧Ents Bs As':=fun h hB=>by
  rw [hrw,if_neg h]
  obtain ⟨As',h1,h2⟩:=Zqx (As:=As)
  exact ⟨As',h1,Ents.trans hB h2⟩
 (repeat' (first|((show TL _ _ _ _ (_::_) _ _ _;first|refine Zlh ?_|refine Zle ?_|(refine Zgd ?_;intro _)|(refine Zis ?_;first|rintro _ _ ⟨rfl,rfl⟩|rintro _ _ rfl)|refine Zec ?_|refine Zcn ?_|refine Zlf ?_|fail))|(refine Stp.h ?_)|((show Tri _ _ _ (.cond _ _ _) _ _ _;first|refine Zea ?_|refine Zeb ?_|refine Zbs ?_|refine Zbt ?_|refine Zbc ?_|refine Zbd ?_|fail))|(first|refine Zdw rfl rfl (fun hgs=>?_) (fun hgs=>?_)|refine Zcu rfl rfl (fun hgs=>?_) (fun hgs=>?_)|refine Zdv rfl rfl rfl (fun hgs=>?_) (fun hgs=>?_)|refine Zct rfl rfl rfl (fun hgs=>?_) (fun hgs=>?_))|(refine Kx (fun hc=>?_) fun hc=>?_)))
 ·(refine Zac ?_)
  exact hbad (e:=[]) (by omega) Zaa
 ·(refine Zac ?_)
  exact hbad (e:=[]) (by omega) Zaa
 rename_i b1
 refine Tri.loop (ι:=Nat) (fun k=>k≤l.length∧∀ (j:Nat) (c:UInt8),j < k→l[j]?=some c→isDig c=true) (fun k=>l.length - k)
  (fun k=>[(2,.pointer (some ⟨b1,0,none⟩)),(4,.string ⟨l.toArray⟩),(5,.bool neg),(22,.int .i64 l.length),(23,.int .i64 k)]) (fun _=>.cl b1 [.slice none 0 0,.bool false] 177::As) 0 ⟨by omega,fun _ _ h=>by omega⟩ Zae Zaa ?_
 intro k ⟨hk,hf⟩
 repeat' first|refine Kz ?_|intro _
 (refine Kx (fun hc=>?_) fun hc=>?_)
 ·obtain ⟨c,hc'⟩:∃ c,l[k]?=some c:=⟨_,List.getElem?_eq_getElem (by omega)⟩
  (repeat' (first|((show TL _ _ _ _ (_::_) _ _ _;first|refine Zlh ?_|refine Zle ?_|(refine Zgd ?_;intro _)|(refine Zis ?_;first|rintro _ _ ⟨rfl,rfl⟩|rintro _ _ rfl)|refine Zec ?_|refine Zcn ?_|refine Zlf ?_|fail))|(refine Stp.h ?_)|((show Tri _ _ _ (.cond _ _ _) _ _ _;first|refine Zea ?_|refine Zeb ?_|refine Zbs ?_|refine Zbt ?_|refine Zbc ?_|refine Zbd ?_|fail))|(first|refine Zdw rfl rfl (fun hgs=>?_) (fun hgs=>?_)|refine Zcu rfl rfl (fun hgs=>?_) (fun hgs=>?_)|refine Zdv rfl rfl rfl (fun hgs=>?_) (fun hgs=>?_)|refine Zct rfl rfl rfl (fun hgs=>?_) (fun hgs=>?_))|(refine Kx (fun hc=>?_) fun hc=>?_)))
  ·(refine Zac ?_)
   refine hbad (e:=[]) (fun h=>?_) Zaa
   have:=Zf6.1 (h.2.2.1 c (List.mem_of_getElem? hc'))
   omega
  ·(refine Zac ?_)
   refine hbad (e:=[]) (fun h=>?_) Zaa
   have:=Zf6.1 (h.2.2.1 c (List.mem_of_getElem? hc'))
   omega
  ·refine Post.round (k+1) ⟨by omega,fun j y hj hy=>?_⟩ (by omega) Zae Zaa
   rcases Nat.lt_or_ge j k with h1|h1
   ·exact hf j y h1 hy
   ·rw [show j=k from (by omega),hc'] at hy;cases hy;rw [Zf6];omega
 ·have hall:∀ c∈l,isDig c=true:=fun c hc=>by
   obtain ⟨j,hj⟩:=List.mem_iff_getElem?.1 hc
   exact hf j c (by have:=(List.getElem?_eq_some_iff.1 hj).1;omega) hj
  obtain ⟨c0,hc0⟩:∃ c,l[0]?=some c:=⟨_,List.getElem?_eq_getElem (by omega)⟩
  have h48:l[0]?=some 48↔c0.toNat=48:=by
   rw [hc0]
   constructor
   ·intro h;cases h;rfl
   ·intro h;congr 1;apply UInt8.toNat_inj.1;rw [h];rfl
  have hfin:(l[0]?=some 48→neg=false∧l.length=1)→∃ z:Int,readW s=some z∧z.natAbs=numOf l∧decide (z < 0)=neg:=fun h=>by
   refine ⟨_,by rw [hrw,if_pos ⟨by omega,by omega,hall,h⟩],by split<;>omega,?_⟩
   cases neg
   ·simp
   ·have:=Zdr hall (by omega) fun h1=>by have:=(h h1).1;cases this
    simp;omega
  cases neg
  all_goals
   (repeat' (first|((show TL _ _ _ _ (_::_) _ _ _;first|refine Zlh ?_|refine Zle ?_|(refine Zgd ?_;intro _)|(refine Zis ?_;first|rintro _ _ ⟨rfl,rfl⟩|rintro _ _ rfl)|refine Zec ?_|refine Zcn ?_|refine Zlf ?_|fail))|(refine Stp.h ?_)|(first|(show TT _ _ _ _ _ _ _ _ _;first|refine Zwx ?_|refine Zuf ?_|refine Zoo ?_|refine Z2j ?_|fail)|exact TTs.nil|refine TTs.cons ?_ ?_|(show T1 _ _ _ _ _ _ _ _ _ _;first|refine Z2l ?_|(refine Z0z ?_;intro _)|(refine Z0y ?_;first|rintro _ _ ⟨rfl,rfl⟩|rintro _ _ rfl)|refine Z2m ?_|refine Zza ?_|refine Zwy ?_|fail)|(show TC _ _ _ _ _ _ _ _ _ _;first|refine Z0x ?_|refine Zy9 ?_|fail))|((show Tri _ _ _ (.cond _ _ _) _ _ _;first|refine Zea ?_|refine Zeb ?_|refine Zbs ?_|refine Zbt ?_|refine Zbc ?_|refine Zbd ?_|fail))|(first|refine Zdw rfl rfl (fun hgs=>?_) (fun hgs=>?_)|refine Zcu rfl rfl (fun hgs=>?_) (fun hgs=>?_)|refine Zdv rfl rfl rfl (fun hgs=>?_) (fun hgs=>?_)|refine Zct rfl rfl rfl (fun hgs=>?_) (fun hgs=>?_))|(refine Kx (fun hc=>?_) fun hc=>?_)))
   all_goals first
        | ((refine Zac ?_)
           refine hbad (e:=[]) (fun h=>?_) Zaa
           have:=h.2.2.2 (h48.2 (by omega))
           first|omega|(have h9:=this.1;cases h9))
        | (refine Exists.elim (hfin (fun h=>by have:=h48.1 h;first|omega|exact ⟨rfl,by omega⟩)) ?_
           clear hfin
           rintro z ⟨h1,h2,h3⟩
           refine TL.call rfl rfl rfl (Zig hall (by omega) (by omega)) ?_
           rintro _ _ ⟨p,cap,rfl,rfl⟩
           repeat' first|refine Kz ?_|intro _
           (refine Zac ?_)
           rw [h1]
           refine ⟨_,⟨p,cap,?_,rfl⟩,by simp only [Option.getD_some,h2];(exact Zaa)⟩
           simp only [Option.getD_some,h2,h3]
           rfl)
end Go.Proofs.YtoednejlfbfciaaGreatDoor
namespace Go.Proofs.YtoednejlfbfciaaGreatDoor
open Go Go.Sx
variable {w0:World} {As:List Ent}
theorem Zoi {x y:Int}:CQ Tryz.prog w0 165 [.int .u32 x,.int .u32 y] As (.int .i64 (Lib.compareInt x y)):=by
 refine Zab Tryz.func165 rfl Tryz.ntmps165 rfl ?_
 have hnan:∀ {z:Int} {As:List Ent},CQ Tryz.prog w0 191 [.int .u32 z] As (.bool (!decide (z=z))):=fun {z As}=>by
  refine Zab Tryz.func191 rfl Tryz.ntmps191 rfl ?_
  repeat' first|refine Kz ?_|intro _
  exact Kv
 repeat' first|refine Kz ?_|intro _
 refine TL.call rfl rfl rfl hnan ?_
 rintro _ As ⟨rfl,rfl⟩
 repeat' first|refine Kz ?_|intro _
 refine TL.call rfl rfl rfl hnan ?_
 rintro _ As ⟨rfl,rfl⟩
 have h1:(!decide (x=x))=false:=by simp
 have h2:(!decide (y=y))=false:=by simp
 rw [h1,h2]
 (repeat' (first|((show TL _ _ _ _ (_::_) _ _ _;first|refine Zlh ?_|refine Zle ?_|(refine Zgd ?_;intro _)|(refine Zis ?_;first|rintro _ _ ⟨rfl,rfl⟩|rintro _ _ rfl)|refine Zec ?_|refine Zcn ?_|refine Zlf ?_|fail))|(refine Stp.h ?_)|((show Tri _ _ _ (.cond _ _ _) _ _ _;first|refine Zea ?_|refine Zeb ?_|refine Zbs ?_|refine Zbt ?_|refine Zbc ?_|refine Zbd ?_|fail))|(first|refine Zdw rfl rfl (fun hgs=>?_) (fun hgs=>?_)|refine Zcu rfl rfl (fun hgs=>?_) (fun hgs=>?_)|refine Zdv rfl rfl rfl (fun hgs=>?_) (fun hgs=>?_)|refine Zct rfl rfl rfl (fun hgs=>?_) (fun hgs=>?_))|(refine Kx (fun hc=>?_) fun hc=>?_)))
 ·(refine Zac ?_)
  exact ⟨_,⟨by rw [Lib.compareInt,if_pos (by assumption)],rfl⟩,Zaa⟩
 ·(refine Zac ?_)
  exact ⟨_,⟨by rw [Lib.compareInt,if_neg (by omega),if_pos (by omega)],rfl⟩,Zaa⟩
 ·(refine Zac ?_)
  exact ⟨_,⟨by rw [Lib.compareInt,if_neg (by omega),if_neg (by omega)],rfl⟩,Zaa⟩
end Go.Proofs.YtoednejlfbfciaaGreatDoor
namespace Go.Proofs.YtoednejlfbfciaaGreatDoor
open Go Go.Sx
variable {w0:World} {As:List Ent}
end Go.Proofs.YtoednejlfbfciaaGreatDoor
namespace Go.Proofs.YtoednejlfbfciaaGreatDoor
open Go Go.Sx
variable {w0:World} {As:List Ent}
def SgnR (As:List Ent) (z:Int) (u:Value) (Bs:List Ent):Prop:=∃ p cap,u=.agg #[.slice p (mag z.natAbs).length cap,.bool (decide (z < 0))]∧Bs=.ft (rd (cN .u32) (.slice p (mag z.natAbs).length cap) (mag z.natAbs))::As
theorem Zfh {n:Nat} {b:Bool} {z:Int} {p:Option Addr} {cap:Nat} (h1:z.natAbs=n) (h2:decide (z < 0)=(b&&decide (n≠0))) :
  SgnR As z (.agg #[.slice p (mag n).length cap,.bool (b&&decide (n≠0))]) (.ft (rd (cN .u32) (.slice p (mag n).length cap) (mag n))::As):=⟨p,cap,by rw [h1,h2],by rw [h1]⟩
theorem Z2z {a b:Nat}:Lib.compareInt a b < 0↔a < b:=by
 unfold Lib.compareInt
 split
 ·simp;omega
 ·split<;>simp<;>omega
theorem Zpo (ht:Tab w0) {n:Int} (h0:-9223372036854775808≤n) (h1:n≤9223372036854775807):CQ Tryz.prog w0 72 [.int .i64 n] As (.string ⟨(textI n).toArray⟩):=by
 refine Zab Tryz.func72 rfl Tryz.ntmps72 rfl ?_
 repeat' first|refine Kz ?_|intro _
 refine Kt rfl (Zn9 ht h0 h1) ?_
 repeat' first|refine Kz ?_|intro _
 exact Kv
end Go.Proofs.YtoednejlfbfciaaGreatDoor
