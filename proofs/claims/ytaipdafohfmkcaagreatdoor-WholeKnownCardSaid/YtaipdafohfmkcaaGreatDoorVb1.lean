/- Walks: the reference on whole numbers: products, powers. -/
import Derived.Test.YtaipdafohfmkcaaGreatDoorVa1
import Derived.Test.YtaipdafohfmkcaaGreatDoorPl
import Derived.Test.YtaipdafohfmkcaaGreatDoorWb1
set_option maxHeartbeats 1000000
namespace Go.Sx
open Go
end Go.Sx
namespace Go.Proofs.YtaipdafohfmkcaaGreatDoor
open Go Go.Sx
variable {w0:World} {As:List Ent}
end Go.Proofs.YtaipdafohfmkcaaGreatDoor
namespace Go.Sx
open Go
structure D01 where
 below:Bool
 gv:Value
 gs:List Nat
 zeros:Nat
def groupsD (gs:List Nat):Nat:=gs.foldl (fun n g=>n * 1000+g % 1000) 0
def D01.size (d:D01):Nat:=groupsD (d.gs.take 12) * 10 ^ (d.zeros % 501)
def D01.num (d:D01):Int:=if d.below then -(d.size:Int) else (d.size:Int)
def D01.cells (d:D01):List Value:=[.bool d.below,d.gv,.int .u16 (d.zeros:Int)]
def D01.ok (d:D01):Prop:=(∀ g∈d.gs,g≤65535)∧d.gs.length≤9223372036854775807∧d.zeros≤65535
theorem Zh7 {gs:List Nat} {g:Nat}:groupsD (gs++[g])=groupsD gs * 1000+g % 1000:=by simp [groupsD]
theorem Zgo (gs:List Nat):∀ k,groupsD (gs.take k) < 1000 ^ k
 | 0=>by simp [groupsD]
 | k + 1=>by
  have ih:=Zgo gs k
  rw [List.take_add_one]
  cases h:gs[k]? with
  | none =>
   simp only [Option.toList_none,List.append_nil]
   rw [Nat.pow_succ];omega
  | some g =>
   simp only [Option.toList_some]
   rw [Zh7,Nat.pow_succ];omega
theorem Zk8 {a e i j:Nat} (h1:a < 10 ^ i) (h2:e≤j):a * 10 ^ e < 10 ^ (i+j):=by
 rw [Nat.pow_add]
 exact Nat.lt_of_lt_of_le (Nat.mul_lt_mul_of_pos_right h1 (Nat.pow_pos (by omega))) (Nat.mul_le_mul_left _ (Nat.pow_le_pow_right (by omega) h2))
theorem D01.size_lt (d:D01):∃ k,k≤540∧d.size < 10 ^ k:=by
 have h1:=Zgo d.gs 12
 have h3:(1000:Nat) ^ 12=10 ^ 36:=by rw [show (1000:Nat)=10 ^ 3 from rfl,← Nat.pow_mul]
 rw [h3] at h1
 exact ⟨36+d.zeros % 501,by omega,Zk8 h1 (Nat.le_refl _)⟩
theorem D01.natAbs (d:D01):d.num.natAbs=d.size:=by unfold D01.num;split<;>simp
theorem D01.digits (d:D01):Lib.nDigits d.num.natAbs≤600:=by
 rw [d.natAbs]
 obtain ⟨k,hk,hl⟩:=d.size_lt
 rcases Nat.eq_zero_or_pos k with h0|h0
 ·subst h0
  rw [show d.size=0 by simpa using hl,Lib.nDigits_small (by decide)];omega
 ·exact Nat.le_trans (Zel h0 hl) (by omega)
end Go.Sx
namespace Go.Proofs.YtaipdafohfmkcaaGreatDoor
open Go Go.Sx
variable {w0:World} {As:List Ent}
end Go.Proofs.YtaipdafohfmkcaaGreatDoor
namespace Go.Sx
open Go
theorem Zc8 {s:List UInt8} {z:Int} (h:readW s=some z):textI z=s:=by
 have key:∀ l:List UInt8,(∀ c∈l,isDig c=true)→0 < l.length→(l[0]?=some 48→l.length=1)→Lib.decDigits (numOf l)=l:=fun l hd h0 h1=>by
  by_cases h2:l[0]?=some 48
  ·have h3:=h1 h2
   match l,h3 with
   | [c],_ =>
    simp only [List.getElem?_cons_zero,Option.some.injEq] at h2
    subst h2
    rw [show numOf [48]=0 from rfl,Zba (by decide)];rfl
  ·exact (Zkk l.length rfl hd (by intro h;rw [h] at h0;cases h0) h2).symm
 unfold readW at h
 by_cases hp:Lib.hasPrefix s [45]=true
 ·rw [if_pos hp] at h
  split at h
  ·rename_i hc
   cases h
   have hpos:=Zcw (l:=s.drop 1) hc.2.2.1 hc.1 hc.2.2.2
   rw [Ze6,if_pos (by omega),Int.natAbs_neg,Int.natAbs_natCast,key _ hc.2.2.1 hc.1 (fun h=>absurd h hc.2.2.2)]
   cases s with
   | nil=>cases hp
   | cons c r =>
    rw [Zan,decide_eq_true_eq] at hp
    rw [hp];rfl
  ·cases h
 ·rw [if_neg hp] at h
  split at h
  ·rename_i hc
   cases h
   rw [Ze6,if_neg (by omega),Int.natAbs_natCast,key _ hc.2.2.1 hc.1 hc.2.2.2]
  ·cases h
theorem Zg8 {l:List UInt8} {z:Int} (h:readW l=some z):outW z=(l,0):=by rw [Zi2 (Zcv h),Zc8 h]
theorem Zbl {f:Int→Int→Int} {s t l:List UInt8} {x y:Int} (h1:readW s=some x) (h2:readW t=some y) (h3:readW l=some (f x y)):binW f s t=(l,0):=by
 unfold binW;rw [h1,h2];exact Zg8 h3
theorem Zbq {s t q r:List UInt8} {x y:Int} (h1:readW s=some x) (h2:readW t=some y) (h0:y≠0) (h3:readW q=some (x / y)) (h4:readW r=some (x % y)):divW s t=(q,r,0):=by
 unfold divW;rw [h1,h2];simp only [];rw [if_neg h0,Zc8 h3,Zc8 h4]
theorem Zd6 {s l:List UInt8} {x:Int} {n:Int} (h1:readW s=some x) (h0:¬ (n < 0∨40 < n)) (h3:readW l=some (x ^ n.toNat)):powW s n=(l,0):=by
 unfold powW;rw [h1];simp only [];rw [if_neg h0];exact Zg8 h3
theorem Zbm {s l:List UInt8} {x:Int} {k:Int} {r:Nat} (h1:readW s=some x) (h0:¬ (k < 1∨12 < k∨x < 0)) (h2:r ^ k.toNat≤x.natAbs) (h4:x.natAbs < (r+1) ^ k.toNat) (h3:readW l=some (r:Int)):rootW s k=(l,0):=by
 unfold rootW;rw [h1];simp only [];rw [if_neg h0,Zj8 (by omega) h2 h4];exact Zg8 h3
end Go.Sx
namespace Go.Proofs.YtaipdafohfmkcaaGreatDoor
open Go Go.Sx
variable {w0:World} {As:List Ent}
theorem Zbo {s:List UInt8}:CallsS Tryz.prog w0 10 [.string ⟨s.toArray⟩] As fun u Bs=>∃ b,u=.func (.func 34) #[] #[.pointer (some ⟨b,0,none⟩)]∧Bs=.cl b [.string ⟨s.toArray⟩] 23::As:=by
 refine Zaa Tryz.func10 rfl Tryz.ntmps10 rfl ?_
 repeat' first|refine Kz ?_|intro _
 (refine Zad ?_)
 exact ⟨_,⟨_,rfl,rfl⟩,Zab⟩
theorem Zaj {s:List UInt8} {b:Nat}:CallsS Tryz.prog w0 34 [.string ⟨s.toArray⟩,.int .i64 0,.pointer (some ⟨b,0,none⟩)] (.cl b [.string ⟨s.toArray⟩] 23::As) fun u Bs=>u=.bool true∧Bs=.cl b [.string ⟨s.toArray⟩] 23::As:=by
 refine Zaa Tryz.func34 rfl Tryz.ntmps34 rfl ?_
 have hs:(s=s):=rfl
 repeat' first|refine Kz ?_|intro _
 (refine Zad ?_)
 exact ⟨_,⟨by simp,rfl⟩,Zab⟩
theorem Zay {n:Int}:CallsS Tryz.prog w0 7 [.int .i64 n] As fun u Bs=>∃ b,u=.func (.func 32) #[] #[.pointer (some ⟨b,0,none⟩)]∧Bs=.cl b [.int .i64 n] 25::As:=by
 refine Zaa Tryz.func7 rfl Tryz.ntmps7 rfl ?_
 repeat' first|refine Kz ?_|intro _
 (refine Zad ?_)
 exact ⟨_,⟨_,rfl,rfl⟩,Zab⟩
theorem Zak {n:Int} {b:Nat}:CallsS Tryz.prog w0 32 [.string ⟨#[]⟩,.int .i64 n,.pointer (some ⟨b,0,none⟩)] (.cl b [.int .i64 n] 25::As) fun u Bs=>u=.bool true∧Bs=.cl b [.int .i64 n] 25::As:=by
 refine Zaa Tryz.func32 rfl Tryz.ntmps32 rfl ?_
 repeat' first|refine Kz ?_|intro _
 (refine Zad ?_)
 exact ⟨_,⟨by simp,rfl⟩,Zab⟩
theorem Zej {n:Int}:CallsS Tryz.prog w0 19 [.int .i64 n] As fun u Bs=>∃ b,u=.func (.func 46) #[] #[.pointer (some ⟨b,0,none⟩)]∧Bs=.cl b [.int .i64 n] 3::As:=by
 refine Zaa Tryz.func19 rfl Tryz.ntmps19 rfl ?_
 repeat' first|refine Kz ?_|intro _
 (refine Zad ?_)
 exact ⟨_,⟨_,rfl,rfl⟩,Zab⟩
theorem Zbu {n:Int} {b:Nat}:CallsS Tryz.prog w0 46 [.int .i64 n,.int .i64 0,.pointer (some ⟨b,0,none⟩)] (.cl b [.int .i64 n] 3::As) fun u Bs=>u=.bool true∧Bs=.cl b [.int .i64 n] 3::As:=by
 refine Zaa Tryz.func46 rfl Tryz.ntmps46 rfl ?_
 repeat' first|refine Kz ?_|intro _
 (refine Zad ?_)
 exact ⟨_,⟨by simp,rfl⟩,Zab⟩
theorem Ze7 {n:Int}:CallsS Tryz.prog w0 21 [.int .i64 n] As fun u Bs=>∃ b,u=.func (.func 48) #[] #[.pointer (some ⟨b,0,none⟩)]∧Bs=.cl b [.int .i64 n] 25::As:=by
 refine Zaa Tryz.func21 rfl Tryz.ntmps21 rfl ?_
 repeat' first|refine Kz ?_|intro _
 (refine Zad ?_)
 exact ⟨_,⟨_,rfl,rfl⟩,Zab⟩
theorem Zcf {n:Int} {b:Nat}:CallsS Tryz.prog w0 48 [.int .i64 0,.int .i64 n,.pointer (some ⟨b,0,none⟩)] (.cl b [.int .i64 n] 25::As) fun u Bs=>u=.bool true∧Bs=.cl b [.int .i64 n] 25::As:=by
 refine Zaa Tryz.func48 rfl Tryz.ntmps48 rfl ?_
 repeat' first|refine Kz ?_|intro _
 (refine Zad ?_)
 exact ⟨_,⟨by simp,rfl⟩,Zab⟩
theorem Zbp {s t:List UInt8}:CallsS Tryz.prog w0 14 [.string ⟨s.toArray⟩,.string ⟨t.toArray⟩] As fun u Bs=>∃ b c,u=.func (.func 43) #[] #[.pointer (some ⟨b,0,none⟩),.pointer (some ⟨c,0,none⟩)]∧Bs=.cl c [.string ⟨t.toArray⟩] 23::.cl b [.string ⟨s.toArray⟩] 23::As:=by
 refine Zaa Tryz.func14 rfl Tryz.ntmps14 rfl ?_
 repeat' first|refine Kz ?_|intro _
 (refine Zad ?_)
 exact ⟨_,⟨_,_,rfl,rfl⟩,Zab⟩
theorem Zax {s t:List UInt8} {b c:Nat}:CallsS Tryz.prog w0 43 [.string ⟨s.toArray⟩,.string ⟨t.toArray⟩,.int .i64 0,.pointer (some ⟨b,0,none⟩),.pointer (some ⟨c,0,none⟩)] (.cl c [.string ⟨t.toArray⟩] 23::.cl b [.string ⟨s.toArray⟩] 23::As) fun u Bs=>u=.bool true∧Bs=.cl c [.string ⟨t.toArray⟩] 23::.cl b [.string ⟨s.toArray⟩] 23::As:=by
 refine Zaa Tryz.func43 rfl Tryz.ntmps43 rfl ?_
 have hs:(s=s):=rfl
 have ht:(t=t):=rfl
 repeat' first|refine Kz ?_|intro _
 (refine Zad ?_)
 exact ⟨_,⟨by simp,rfl⟩,Zab⟩
end Go.Proofs.YtaipdafohfmkcaaGreatDoor
