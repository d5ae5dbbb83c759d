/- Walks: magnitudes of small numbers, products, a number by one group. -/
import Derived.Test.YtngcfjfaobcpmaaGreatDoorWa3
import Derived.Test.YtngcfjfaobcpmaaGreatDoorPl
import Derived.Test.YtngcfjfaobcpmaaGreatDoorSxB
import Derived.Below
set_option maxHeartbeats 1000000
namespace Go.Proofs.YtngcfjfaobcpmaaGreatDoor
open Go Go.Sx
variable {w0:World} {As:List Ent}
def ShortR (As:List Ent) (q r:Nat) (u:Value) (Bs:List Ent):Prop:=∃ p cap,u=.tuple #[.slice p (mag q).length cap,.int .u32 (r:Int)]∧Bs=.ft (rd (cN .u32) (.slice p (mag q).length cap) (mag q))::As
end Go.Proofs.YtngcfjfaobcpmaaGreatDoor
namespace Go.Proofs.YtngcfjfaobcpmaaGreatDoor
open Go Go.Sx
variable {w0:World} {As:List Ent}
def RedR (As:List Ent) (vu:Value) (us:List Nat) (lo b:Nat) (r:Value) (Bs:List Ent):Prop:=∃ us':List Nat,r=.int .u32 ((valB (us.drop lo) / b:Nat):Int)∧us'.length=us.length∧(∀ x∈us',x < 1000000000)∧valB (us'.drop lo)=valB (us.drop lo) % b∧us'.take lo=us.take lo∧Bs=.ow (cN .u32) 81 vu us'::As
end Go.Proofs.YtngcfjfaobcpmaaGreatDoor
namespace Go.Proofs.YtngcfjfaobcpmaaGreatDoor
open Go Go.Sx
variable {w0:World} {As:List Ent}
def DivR (As:List Ent) (q r:Nat) (u:Value) (Bs:List Ent):Prop:=∃ p cap p' cap',u=.tuple #[.slice p (mag q).length cap,.slice p' (mag r).length cap']∧Bs=.ft (rd (cN .u32) (.slice p (mag q).length cap) (mag q))::.ft (rd (cN .u32) (.slice p' (mag r).length cap') (mag r))::As
theorem Ybn {b:Nat} (h:(mag b).length=1):b < 1000000000∧(mag b)[0]?=some b:=by
 have h1:=Zaq b
 rw [h,Nat.pow_one] at h1
 refine ⟨h1,?_⟩
 have hb:b≠0:=fun h0=>by rw [h0,Za3] at h;cases h
 rw [Zfw hb,List.getElem?_cons_zero,Nat.mod_eq_of_lt h1]
theorem Zf8 {s:Nat} (h0:0 < s) (h:s < 1000000000):mag s=[s]:=by
 rw [Zfw (by omega),Nat.mod_eq_of_lt h,Nat.div_eq_of_lt h,Za3]
end Go.Proofs.YtngcfjfaobcpmaaGreatDoor
namespace Go.Sx
open Go
theorem Zoy (n:Nat):n < 10 ^ Lib.nDigits n:=by
 have h:=Zed (l:=Lib.decDigits n) (Zwn n)
 rwa [Znt,Zcu] at h
theorem Zi3 (n:Nat):Lib.nDigits n≤9 * (mag n).length+1:=by
 by_cases h0:n=0
 ·subst h0;rw [Lib.nDigits_small (by decide)];omega
 ·have h3:(mag n).length≠0:=fun h=>h0 (Z7v.1 h)
  obtain ⟨d,hd⟩:∃ d,(mag n)[(mag n).length - 1]?=some d:=⟨_,List.getElem?_eq_getElem (by omega)⟩
  obtain ⟨k1,k2,k3⟩:=Zfx hd
  have hl0:n / 1000000000 ^ ((mag n).length - 1+1)=0:=by
   rw [show (mag n).length - 1+1=(mag n).length by omega]
   exact Nat.div_eq_of_lt (Zaq n)
  rw [Zfb _ k2,k1,hl0,Nat.mul_zero,Nat.add_zero]
  have:=Zc3 (k:=8) (r:=d) (by simpa using k3)
  omega
theorem Zgw (a b:Nat):(mag (a+b)).length≤max (mag a).length (mag b).length+1:=by
 refine Zf9 ?_
 have h1:=Nat.lt_of_lt_of_le (Zaq a) (Nat.pow_le_pow_right (n:=1000000000) (by omega) (Nat.le_max_left (mag a).length (mag b).length))
 have h2:=Nat.lt_of_lt_of_le (Zaq b) (Nat.pow_le_pow_right (n:=1000000000) (by omega) (Nat.le_max_right (mag a).length (mag b).length))
 rw [Nat.pow_succ]
 omega
end Go.Sx
namespace Go.Proofs.YtngcfjfaobcpmaaGreatDoor
open Go Go.Sx
variable {w0:World} {As:List Ent}
end Go.Proofs.YtngcfjfaobcpmaaGreatDoor
namespace Go.Sx
open Go
theorem St.below {w0 w w':World} {As:List Ent} (h:St w0 w As) (hb:RowKit.Below w.heap.size w w'):St w0 w' As:=by
 obtain ⟨H,bs,g⟩:=h
 refine ⟨H,bs,Nat.le_trans g.size hb.size,hb.os.trans g.os,hb.tape.trans g.tape,hb.output.trans g.output,fun b o hbo=>?_,g.old,Sat.move (FH.le_refl H) g.sat fun b hm=>hb.block b (g.sat.lt b hm),g.nd,g.ap⟩
 have h1:=g.fz b o hbo
 rw [hb.block b (Array.getElem?_eq_some_iff.1 h1).1];exact h1
end Go.Sx
namespace Go.Proofs.YtngcfjfaobcpmaaGreatDoor
open Go Go.Sx
variable {w0:World} {As:List Ent}
end Go.Proofs.YtngcfjfaobcpmaaGreatDoor
namespace Go.Proofs.YtngcfjfaobcpmaaGreatDoor
open Go Go.Sx
variable {w0:World} {As:List Ent}
theorem Zhz {s:List UInt8} (hs:s.length≤1000000000):CQ Tryz.prog w0 180 [.string ⟨s.toArray⟩] As (.int .i64 (checkW s)):=by
 refine Zab Tryz.func180 rfl Tryz.ntmps180 rfl ?_
 repeat' first|refine Kz ?_|intro _
 refine TL.call rfl rfl rfl (Zd4 hs) ?_
 rintro _ _ ⟨p,cap,rfl,rfl⟩
 unfold checkW
 cases h1:readW s with
 | none =>
  repeat' first|refine Kz ?_|intro _
  exact Kv
 | some x =>
  repeat' first|refine Kz ?_|intro _
  exact Kv
end Go.Proofs.YtngcfjfaobcpmaaGreatDoor
namespace Go.Proofs.YtngcfjfaobcpmaaGreatDoor
open Go Go.Sx
variable {w0:World} {As:List Ent}
instance:IfT Tryz.prog 257:=⟨_,Tryz.underlying257⟩
def ErrR (w:World):Prop:=∃ ev,w.cell? ⟨1,0,none⟩=some ev∧(ev=.nilIface∨∃ te pe,ev=.iface te pe)
theorem ErrR.keep {w:World} (he:ErrR w0) (h:St w0 w As):ErrR w:=by
 obtain ⟨ev,h1,h2⟩:=he
 refine ⟨ev,?_,h2⟩
 simp only [World.cell?] at h1 ⊢
 cases ho:w0.heap[1]? with
 | none=>rw [ho] at h1;cases h1
 | some o=>rw [St.old h ho];rw [ho] at h1;exact h1
theorem Z7f {s:List UInt8} {z:Int} (hr:readW s=some z) (h:-9223372036854775808≤z∧z≤9223372036854775807) (hs:s.length≤1000000000) :
  CallsS Tryz.prog w0 209 [.string ⟨s.toArray⟩,.int .i64 10,.int .i64 64] As fun u Bs=>u=.tuple #[.int .i64 z,.nilIface]∧Bs=As :=
 CallsS.mk fun w hst=>(Tryz.strconv_ParseInt_10_at64_ok ⟨s.toArray⟩ (by show s.toArray.size≤_;simp;omega) z (by rw [show (⟨s.toArray⟩:ByteArray).data.toList=s from rfl,Zno hr,if_pos h]) w).mono fun en w' ⟨h1,h2⟩=>by
  refine ⟨_,As,h1,⟨rfl,rfl⟩,?_⟩
  rcases h2 with rfl|⟨t,rfl⟩
  ·exact hst
  ·exact hst.below (Lib.bytesWorld_below _ _ _)
theorem Zvo (he:ErrR w0) {s:List UInt8} {z:Int} (hr:readW s=some z) (h:¬ (-9223372036854775808≤z∧z≤9223372036854775807)) (hs:s.length≤1000000000) :
  CallsS Tryz.prog w0 209 [.string ⟨s.toArray⟩,.int .i64 10,.int .i64 64] As fun u Bs=>(∃ n t p,u=.tuple #[.int .i64 n,.iface t p])∧Bs=As :=
 CallsS.mk fun w hst=>by
  obtain ⟨ev,h1,h2⟩:=he.keep hst
  refine (Tryz.strconv_ParseInt_10_at64_range ⟨s.toArray⟩ (by show s.toArray.size≤_;simp;omega) (by rw [show (⟨s.toArray⟩:ByteArray).data.toList=s from rfl,Zno hr,if_neg h]) ev w h1 h2).mono fun en w' ⟨N,k1,_,_,k4⟩=>?_
  exact ⟨_,As,k1,⟨⟨_,_,_,rfl⟩,rfl⟩,hst.below k4⟩
theorem Yeq (he:ErrR w0) {s:List UInt8} (hs:s.length≤1000000000):CQ Tryz.prog w0 176 [.string ⟨s.toArray⟩] As (.tuple #[.int .i64 (intW s).1,.int .i64 (intW s).2]):=by
 refine Zab Tryz.func176 rfl Tryz.ntmps176 rfl ?_
 repeat' first|refine Kz ?_|intro _
 refine Kt rfl (Zhz hs) ?_
 unfold intW checkW
 cases h1:readW s with
 | none =>
  simp only [Option.isSome_none,Bool.false_eq_true,if_false]
  repeat' first|refine Kz ?_|intro _
  exact Kv
 | some x =>
  simp only [Option.isSome_some,if_true]
  by_cases hx:-9223372036854775808≤x∧x≤9223372036854775807
  ·rw [if_pos hx]
   repeat' first|refine Kz ?_|intro _
   refine Kt rfl (Z7f h1 hx hs) ?_
   repeat' first|refine Kz ?_|intro _
   refine TL.f rfl rfl (Zgj rfl) ?_
   repeat' first|refine Kz ?_|intro _
   exact Kv
  ·rw [if_neg hx]
   repeat' first|refine Kz ?_|intro _
   refine TL.call rfl rfl rfl (Zvo he h1 hx hs) ?_
   rintro _ _ ⟨⟨n,t,p,rfl⟩,rfl⟩
   repeat' first|refine Kz ?_|intro _
   refine TL.f rfl rfl (Zfg rfl) ?_
   repeat' first|refine Kz ?_|intro _
   exact Kv
end Go.Proofs.YtngcfjfaobcpmaaGreatDoor
namespace Go.Sx
open Go
end Go.Sx
namespace Go.Proofs.YtngcfjfaobcpmaaGreatDoor
open Go Go.Sx
variable {w0:World} {As:List Ent}
end Go.Proofs.YtngcfjfaobcpmaaGreatDoor
