/- Walks: magnitudes of small numbers, products, a number by one group. -/
import Derived.Test.YtoednejlfbfciaaGreatDoorWa3
import Derived.Test.YtoednejlfbfciaaGreatDoorPl
import Derived.Test.YtoednejlfbfciaaGreatDoorSxB
import Derived.Below
set_option maxHeartbeats 1000000
namespace Go.Proofs.YtoednejlfbfciaaGreatDoor
open Go Go.Sx
variable {w0:World} {As:List Ent}
def ShortR (As:List Ent) (q r:Nat) (u:Value) (Bs:List Ent):Prop:=∃ p cap,u=.tuple #[.slice p (mag q).length cap,.int .u32 (r:Int)]∧Bs=.ft (rd (cN .u32) (.slice p (mag q).length cap) (mag q))::As
end Go.Proofs.YtoednejlfbfciaaGreatDoor
namespace Go.Proofs.YtoednejlfbfciaaGreatDoor
open Go Go.Sx
variable {w0:World} {As:List Ent}
def RedR (As:List Ent) (vu:Value) (us:List Nat) (lo b:Nat) (r:Value) (Bs:List Ent):Prop:=∃ us':List Nat,r=.int .u32 ((valB (us.drop lo) / b:Nat):Int)∧us'.length=us.length∧(∀ x∈us',x < 1000000000)∧valB (us'.drop lo)=valB (us.drop lo) % b∧us'.take lo=us.take lo∧Bs=.ow (cN .u32) 46 vu us'::As
end Go.Proofs.YtoednejlfbfciaaGreatDoor
namespace Go.Proofs.YtoednejlfbfciaaGreatDoor
open Go Go.Sx
variable {w0:World} {As:List Ent}
def DivR (As:List Ent) (q r:Nat) (u:Value) (Bs:List Ent):Prop:=∃ p cap p' cap',u=.tuple #[.slice p (mag q).length cap,.slice p' (mag r).length cap']∧Bs=.ft (rd (cN .u32) (.slice p (mag q).length cap) (mag q))::.ft (rd (cN .u32) (.slice p' (mag r).length cap') (mag r))::As
theorem Zyr {b:Nat} (h:(mag b).length=1):b < 1000000000∧(mag b)[0]?=some b:=by
 have h1:=Zak b
 rw [h,Nat.pow_one] at h1
 refine ⟨h1,?_⟩
 have hb:b≠0:=fun h0=>by rw [h0,Zaq] at h;cases h
 rw [Zdh hb,List.getElem?_cons_zero,Nat.mod_eq_of_lt h1]
theorem Zds {s:Nat} (h0:0 < s) (h:s < 1000000000):mag s=[s]:=by
 rw [Zdh (by omega),Nat.mod_eq_of_lt h,Nat.div_eq_of_lt h,Zaq]
end Go.Proofs.YtoednejlfbfciaaGreatDoor
namespace Go.Sx
open Go
theorem Zi9 (n:Nat):n < 10 ^ Lib.nDigits n:=by
 have h:=Zcg (l:=Lib.decDigits n) (Zoh n)
 rwa [Zh8,Zbu] at h
theorem Zff (n:Nat):Lib.nDigits n≤9 * (mag n).length+1:=by
 by_cases h0:n=0
 ·subst h0;rw [Lib.nDigits_small (by decide)];omega
 ·have h3:(mag n).length≠0:=fun h=>h0 (Zwe.1 h)
  obtain ⟨d,hd⟩:∃ d,(mag n)[(mag n).length - 1]?=some d:=⟨_,List.getElem?_eq_getElem (by omega)⟩
  obtain ⟨k1,k2,k3⟩:=Zdi hd
  have hl0:n / 1000000000 ^ ((mag n).length - 1+1)=0:=by
   rw [show (mag n).length - 1+1=(mag n).length by omega]
   exact Nat.div_eq_of_lt (Zak n)
  rw [Zcz _ k2,k1,hl0,Nat.mul_zero,Nat.add_zero]
  have:=Zb0 (k:=8) (r:=d) (by simpa using k3)
  omega
theorem Zd4 (a b:Nat):(mag (a+b)).length≤max (mag a).length (mag b).length+1:=by
 refine Zdt ?_
 have h1:=Nat.lt_of_lt_of_le (Zak a) (Nat.pow_le_pow_right (n:=1000000000) (by omega) (Nat.le_max_left (mag a).length (mag b).length))
 have h2:=Nat.lt_of_lt_of_le (Zak b) (Nat.pow_le_pow_right (n:=1000000000) (by omega) (Nat.le_max_right (mag a).length (mag b).length))
 rw [Nat.pow_succ]
 omega
end Go.Sx
namespace Go.Proofs.YtoednejlfbfciaaGreatDoor
open Go Go.Sx
variable {w0:World} {As:List Ent}
end Go.Proofs.YtoednejlfbfciaaGreatDoor
namespace Go.Sx
open Go
theorem St.below {w0 w w':World} {As:List Ent} (h:St w0 w As) (hb:RowKit.Below w.heap.size w w'):St w0 w' As:=by
 obtain ⟨H,bs,g⟩:=h
 refine ⟨H,bs,Nat.le_trans g.size hb.size,hb.os.trans g.os,hb.tape.trans g.tape,hb.output.trans g.output,fun b o hbo=>?_,g.old,Sat.move (FH.le_refl H) g.sat fun b hm=>hb.block b (g.sat.lt b hm),g.nd,g.ap⟩
 have h1:=g.fz b o hbo
 rw [hb.block b (Array.getElem?_eq_some_iff.1 h1).1];exact h1
end Go.Sx
namespace Go.Proofs.YtoednejlfbfciaaGreatDoor
open Go Go.Sx
variable {w0:World} {As:List Ent}
end Go.Proofs.YtoednejlfbfciaaGreatDoor
namespace Go.Proofs.YtoednejlfbfciaaGreatDoor
open Go Go.Sx
variable {w0:World} {As:List Ent}
theorem Zev {s:List UInt8} (hs:s.length≤1000000000):CQ Tryz.prog w0 102 [.string ⟨s.toArray⟩] As (.int .i64 (checkW s)):=by
 refine Zab Tryz.func102 rfl Tryz.ntmps102 rfl ?_
 repeat' first|refine Kz ?_|intro _
 refine TL.call rfl rfl rfl (Zbw hs) ?_
 rintro _ _ ⟨p,cap,rfl,rfl⟩
 unfold checkW
 cases h1:readW s with
 | none =>
  repeat' first|refine Kz ?_|intro _
  exact Kv
 | some x =>
  repeat' first|refine Kz ?_|intro _
  exact Kv
end Go.Proofs.YtoednejlfbfciaaGreatDoor
namespace Go.Proofs.YtoednejlfbfciaaGreatDoor
open Go Go.Sx
variable {w0:World} {As:List Ent}
instance:IfT Tryz.prog 149:=⟨_,Tryz.underlying149⟩
def ErrR (w:World):Prop:=∃ ev,w.cell? ⟨1,0,none⟩=some ev∧(ev=.nilIface∨∃ te pe,ev=.iface te pe)
theorem ErrR.keep {w:World} (he:ErrR w0) (h:St w0 w As):ErrR w:=by
 obtain ⟨ev,h1,h2⟩:=he
 refine ⟨ev,?_,h2⟩
 simp only [World.cell?] at h1 ⊢
 cases ho:w0.heap[1]? with
 | none=>rw [ho] at h1;cases h1
 | some o=>rw [St.old h ho];rw [ho] at h1;exact h1
theorem Zv6 {s:List UInt8} {z:Int} (hr:readW s=some z) (h:-9223372036854775808≤z∧z≤9223372036854775807) (hs:s.length≤1000000000) :
  CallsS Tryz.prog w0 128 [.string ⟨s.toArray⟩,.int .i64 10,.int .i64 64] As fun u Bs=>u=.tuple #[.int .i64 z,.nilIface]∧Bs=As :=
 CallsS.mk fun w hst=>(Tryz.strconv_ParseInt_10_at64_ok ⟨s.toArray⟩ (by show s.toArray.size≤_;simp;omega) z (by rw [show (⟨s.toArray⟩:ByteArray).data.toList=s from rfl,Zh4 hr,if_pos h]) w).mono fun en w' ⟨h1,h2⟩=>by
  refine ⟨_,As,h1,⟨rfl,rfl⟩,?_⟩
  rcases h2 with rfl|⟨t,rfl⟩
  ·exact hst
  ·exact hst.below (Lib.bytesWorld_below _ _ _)
theorem Zn1 (he:ErrR w0) {s:List UInt8} {z:Int} (hr:readW s=some z) (h:¬ (-9223372036854775808≤z∧z≤9223372036854775807)) (hs:s.length≤1000000000) :
  CallsS Tryz.prog w0 128 [.string ⟨s.toArray⟩,.int .i64 10,.int .i64 64] As fun u Bs=>(∃ n t p,u=.tuple #[.int .i64 n,.iface t p])∧Bs=As :=
 CallsS.mk fun w hst=>by
  obtain ⟨ev,h1,h2⟩:=he.keep hst
  refine (Tryz.strconv_ParseInt_10_at64_range ⟨s.toArray⟩ (by show s.toArray.size≤_;simp;omega) (by rw [show (⟨s.toArray⟩:ByteArray).data.toList=s from rfl,Zh4 hr,if_neg h]) ev w h1 h2).mono fun en w' ⟨N,k1,_,_,k4⟩=>?_
  exact ⟨_,As,k1,⟨⟨_,_,_,rfl⟩,rfl⟩,hst.below k4⟩
theorem Z0j (he:ErrR w0) {s:List UInt8} (hs:s.length≤1000000000):CQ Tryz.prog w0 79 [.string ⟨s.toArray⟩] As (.tuple #[.int .i64 (intW s).1,.int .i64 (intW s).2]):=by
 refine Zab Tryz.func79 rfl Tryz.ntmps79 rfl ?_
 repeat' first|refine Kz ?_|intro _
 refine Kt rfl (Zev hs) ?_
 unfold intW checkW
 cases h1:readW s with
 | none =>
  simp only [Option.isSome_none,Bool.false_eq_true,if_false]
  repeat' first|refine Kz ?_|intro _
  exact Kv
 | some x =>
  simp only [Option.isSome_some,if_true]
  by_cases hx:-9223372036854775808≤x∧x≤9223372036854775807
  ·rw [if_pos hx]
   repeat' first|refine Kz ?_|intro _
   refine Kt rfl (Zv6 h1 hx hs) ?_
   repeat' first|refine Kz ?_|intro _
   refine TL.f rfl rfl (Zrv rfl) ?_
   repeat' first|refine Kz ?_|intro _
   exact Kv
  ·rw [if_neg hx]
   repeat' first|refine Kz ?_|intro _
   refine TL.call rfl rfl rfl (Zn1 he h1 hx hs) ?_
   rintro _ _ ⟨⟨n,t,p,rfl⟩,rfl⟩
   repeat' first|refine Kz ?_|intro _
   refine TL.f rfl rfl (Zo1 rfl) ?_
   repeat' first|refine Kz ?_|intro _
   exact Kv
end Go.Proofs.YtoednejlfbfciaaGreatDoor
namespace Go.Sx
open Go
end Go.Sx
namespace Go.Proofs.YtoednejlfbfciaaGreatDoor
open Go Go.Sx
variable {w0:World} {As:List Ent}
end Go.Proofs.YtoednejlfbfciaaGreatDoor
