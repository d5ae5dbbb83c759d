/- Walks: the reference on whole numbers: products, powers. -/
import Derived.Test.YtbfgldlfciimiaaGreatDoorVa1
import Derived.Test.YtbfgldlfciimiaaGreatDoorPl
import Derived.Test.YtbfgldlfciimiaaGreatDoorWb1
set_option maxHeartbeats 1000000
namespace Go.Sx
open Go
theorem Zvk {x y:Int}:decide (x * y < 0)=(!decide (decide (x < 0)=decide (y < 0))&&decide (x.natAbs * y.natAbs≠0)):=by
 rw [Bool.eq_iff_iff,decide_eq_true_eq,← Int.natAbs_mul]
 simp only [Bool.and_eq_true,Bool.not_eq_true',decide_eq_false_iff_not,decide_eq_true_eq]
 rcases Int.lt_trichotomy x 0 with h|h|h
 ·rcases Int.lt_trichotomy y 0 with k|k|k
  ·have:=Int.mul_pos_of_neg_of_neg h k
   simp [h,k];omega
  ·subst k;simp
  ·have:=Int.mul_neg_of_neg_of_pos h k
   have hk:¬ y < 0:=by omega
   simp [h,hk];omega
 ·subst h;simp
 ·rcases Int.lt_trichotomy y 0 with k|k|k
  ·have:=Int.mul_neg_of_pos_of_neg h k
   have hk:¬ x < 0:=by omega
   simp [k,hk];omega
  ·subst k;simp
  ·have:=Int.mul_pos h k
   have hk:¬ x < 0:=by omega
   have hk':¬ y < 0:=by omega
   simp [hk,hk'];omega
end Go.Sx
namespace Go.Proofs.YtbfgldlfciimiaaGreatDoor
open Go Go.Sx
variable {w0:World} {As:List Ent}
theorem Zij {v o:Value} {xs ys:List Nat} [hf:RdIn As v Nat (cN .i64) xs] [hg:RdIn As o Nat (cN .i64) ys] (hsa:∀ x∈xs,x < 10000) (hsb:∀ y∈ys,y≤10000) (hY:valQ ys≤10000 ^ ys.length) (ha:xs.length≤100000000) (hb:ys.length≤100000000):CallsS Tryz.prog w0 174 [v,o] As (QudR As (valQ xs * valQ ys)):=by
 have hrl:(List.replicate (xs.length+ys.length) 0).length=xs.length+ys.length:=List.length_replicate
 refine Zab Tryz.func174 rfl Tryz.ntmps174 rfl ?_
 repeat' first|refine Kz ?_|intro _
 rename_i sv
 refine Tri.loop (ι:=Nat × List Nat) (fun s=>s.1≤xs.length∧s.2.length=xs.length+ys.length∧(∀ x∈s.2,x < 10000)∧valQ s.2=valQ (xs.take s.1) * valQ ys) (fun s=>xs.length - s.1)
  (fun s=>[(0,v),(1,o),(5,sv),(6,.int .i64 (s.1:Int))]) (fun s=>.ow (cN .i64) 3 sv s.2::As)
  (0,List.replicate (xs.length+ys.length) 0) ⟨by omega,hrl,Zjx _,by simp [Zh3,valQ]⟩ Zad Zaa ?_
 rintro ⟨i,zs⟩ ⟨hi,hxl,hxs,hval⟩
 simp only at hi hxl hxs hval
 show Tri _ _ _ _ [(0,v),(1,o),(5,sv),(6,.int .i64 (i:Int))] (.ow (cN .i64) 3 sv zs::As) _
 repeat' first|refine Kz ?_|intro _
 (refine Kx (fun hc=>?_) fun hc=>?_)
 ·obtain ⟨d,hd⟩:∃ d,xs[i]?=some d:=⟨_,List.getElem?_eq_getElem (by omega)⟩
  have hd9:=hsa d (List.mem_of_getElem? hd)
  have hta:=Zeo hd
  have hap:∀ k,k≤xs.length→valQ (xs.take k) * valQ ys < 10000 ^ (k+ys.length):=fun k hk=>by
   have h1:=Zlz (xs:=xs.take k) fun x hx=>hsa x (List.mem_of_mem_take hx)
   rw [List.length_take,Nat.min_eq_left hk] at h1
   rw [Nat.pow_add]
   rcases Nat.eq_zero_or_pos (valQ ys) with h0|h0
   ·rw [h0,Nat.mul_zero];exact Nat.mul_pos (Nat.pow_pos (by omega)) (Nat.pow_pos (by omega))
   ·exact Nat.lt_of_lt_of_le (Nat.mul_lt_mul_of_pos_right h1 h0) (Nat.mul_le_mul_left _ hY)
  have hxz:zs[i+ys.length]?=some 0:=by
   obtain ⟨z,hz⟩:∃ z,zs[i+ys.length]?=some z:=⟨_,List.getElem?_eq_getElem (by omega)⟩
   rw [Zpy (n:=i+ys.length) (by rw [hval];exact hap i (by omega)) (Nat.le_refl _) hz] at hz
   exact hz
  repeat' first|refine Kz ?_|intro _
  refine Tri.loop (ι:=Nat × List Nat × Nat) (fun s=>s.1≤ys.length∧s.2.1.length=xs.length+ys.length∧(∀ x∈s.2.1,x < 10000)∧s.2.2≤10000∧s.2.1[i+ys.length]?=some 0∧valQ s.2.1+10000 ^ (i+s.1) * s.2.2=valQ (xs.take i) * valQ ys+10000 ^ i * d * valQ (ys.take s.1)) (fun s=>ys.length - s.1)
   (fun s=>[(0,v),(1,o),(5,sv),(6,.int .i64 (i:Int)),(7,.int .i64 (s.2.2:Int)),(8,.int .i64 (s.1:Int))]) (fun s=>.ow (cN .i64) 3 sv s.2.1::As)
   (0,zs,0) ⟨by omega,hxl,hxs,by simp only;omega,hxz,by simp [valQ,hval]⟩ Zad Zaa ?_
  rintro ⟨j,us,c⟩ ⟨hj,hyl,hys,hc9,hyz,hyv⟩
  simp only at hj hyl hys hc9 hyz hyv
  show Tri _ _ _ _ [(0,v),(1,o),(5,sv),(6,.int .i64 (i:Int)),(7,.int .i64 (c:Int)),(8,.int .i64 (j:Int))] (.ow (cN .i64) 3 sv us::As) _
  repeat' first|refine Kz ?_|intro _
  (refine Kx (fun hc=>?_) fun hc=>?_)
  ·obtain ⟨ee,he⟩:∃ ee,ys[j]?=some ee:=⟨_,List.getElem?_eq_getElem (by omega)⟩
   have he9:=hsb ee (List.mem_of_getElem? he)
   have htb:=Zeo he
   obtain ⟨p,hp⟩:∃ p,us[i+j]?=some p:=⟨_,List.getElem?_eq_getElem (by omega)⟩
   have hp9:=hys p (List.mem_of_getElem? hp)
   have hlim:d * ee≤9999 * 10000:=Nat.mul_le_mul (by omega) he9
   have hde:(d:Int) * (ee:Int)=((d * ee:Nat):Int):=(Int.natCast_mul d ee).symm
   repeat' first|refine Kz ?_|intro _
   refine Zam (.take 0 (.take 1 (.take 2 (.take 3 (.take 4 (.take 5 (.take 6 (.take 7 (.take 8 (.take 9 (.take 10 (.take 11 (.take 12 (.take 13 (.take 14 (.take 15 (.take 16 (.take 17 (.take 18 (.done)))))))))))))))))))) ?_
   repeat' first|refine Kf ?_|intro _|constructor
   refine Post.round (j+1,us.set (i+j) ((c+p+d * ee) % 10000),(c+p+d * ee) / 10000) ⟨by simp only;omega,by simpa using hyl,Zhd hys (by omega),by simp only;omega,?_,?_⟩ (by simp only;omega) Zad (Ents.refl _)
   ·simp only
    rw [List.getElem?_set_ne (by omega)]
    exact hyz
   ·simp only
    have h1:=Zus (Zpx (g:=(c+p+d * ee) % 10000) hp) (rfl:c+p+d * ee=c+p+d * ee) hyv
    rw [show i+(j+1)=(i+j)+1 by omega,Nat.pow_succ,h1,htb,Nat.mul_add,Nat.pow_add,Nat.add_assoc]
    congr 2
    simp only [Nat.mul_assoc,Nat.mul_left_comm]
  ·have hje:j=ys.length:=by omega
   subst hje
   rw [Zkn (Nat.le_refl _)] at hyv
   have hc0:c < 10000:=by
    have h1:=hap (i+1) (by omega)
    rw [hta,Nat.add_mul,← hyv,show i+1+ys.length=(i+ys.length)+1 by omega,Nat.pow_succ] at h1
    exact Nat.lt_of_mul_lt_mul_left (a:=10000 ^ (i+ys.length)) (by omega)
   repeat' first|refine Kz ?_|intro _
   refine Post.round (i+1,us.set (i+ys.length) c) ⟨by simp only;omega,by simpa using hyl,Zhd hys hc0,?_⟩ (by simp only;omega) Zad Zaa
   simp only
   have h1:=Zpx (g:=c) hyz
   rw [hta,Nat.add_mul]
   omega
 ·have hie:i=xs.length:=by omega
  rw [Zkn (by omega)] at hval
  repeat' first|refine Kz ?_|intro _
  refine TL.ents Ents.freeze ?_
  refine TL.call rfl rfl rfl (Zkz hxs (by omega)) ?_
  rintro _ _ ⟨p,cap,rfl,rfl⟩
  rw [hval]
  repeat' first|refine Kz ?_|intro _
  (refine Zac ?_)
  exact ⟨_,⟨p,cap,rfl,rfl⟩,Zaa⟩
theorem Zr6 {v o:Value} {x y:Int} [hf:RdIn As v Nat (cN .i64) (qud x.natAbs)] [hg:RdIn As o Nat (cN .i64) (qud y.natAbs)] (ha:(qud x.natAbs).length≤100000000) (hb:(qud y.natAbs).length≤100000000) :
  CallsS Tryz.prog w0 131 [.agg #[.bool (decide (x < 0)),v],.agg #[.bool (decide (y < 0)),o]] As (PlainR As (x * y)):=by
 refine Zae v fun pv cv hv=>Zae o fun po co ho=>?_
 subst hv ho
 have e1:(x * y).natAbs=valQ (qud (x.natAbs * y.natAbs)):=by rw [Za0];exact Int.natAbs_mul x y
 have e2:decide (x * y < 0)=(!decide (decide (x < 0)=decide (y < 0))&&decide (valQ (qud (x.natAbs * y.natAbs))≠0)):=by rw [Za0];exact Zvk
 have hml:=Zf7 x.natAbs y.natAbs
 refine Zab Tryz.func131 rfl Tryz.ntmps131 rfl ?_
 repeat' first|refine Kz ?_|intro _
 refine Zam (.take 0 (.take 1 (.take 2 (.take 3 (.take 4 (.take 5 (.take 6 (.take 7 (.take 8 (.all [(9,.all [(10,.all [(11,.done)])])])))))))))) ?_
 repeat' first|refine Kf ?_|intro _|constructor
 refine T1.call rfl rfl rfl rfl (Zij (Za4 _) (fun y hy=>Nat.le_of_lt (Za4 _ y hy)) (by rw [Za0];exact Nat.le_of_lt (Zbi _)) ha hb) ?_
 rintro _ _ ⟨p,cap,rfl,rfl⟩
 rw [Za0,Za0]
 repeat' first|refine Kf ?_|intro _|constructor
 refine T1.call rfl rfl rfl rfl (Zfg (xs:=qud (x.natAbs * y.natAbs)) (z:=x * y) (Za4 _) (by omega) e1 e2) ?_
 rintro _ _ ⟨p',cap',rfl,rfl⟩
 repeat' first|refine Kf ?_|intro _|constructor
 (refine Zac ?_)
 exact ⟨_,⟨p',cap',rfl,rfl⟩,Zaa⟩
end Go.Proofs.YtbfgldlfciimiaaGreatDoor
namespace Go.Sx
open Go
structure D01 where
 below:Bool
 gv:Value
 gs:List Nat
 zeros:Nat
def groupsD (gs:List Nat):Nat:=gs.foldl (fun n g=>n * 1000+g % 1000) 0
def D01.size (d:D01):Nat:=groupsD (d.gs.take 12) * 10 ^ (d.zeros % 501)
def D01.num (d:D01):Int:=if d.below then -(d.size:Int) else (d.size:Int)
def D01.cells (d:D01):List Value:=[.bool d.below,d.gv,.int .u16 (d.zeros:Int)]
def D01.ok (d:D01):Prop:=(∀ g∈d.gs,g≤65535)∧d.gs.length≤9223372036854775807∧d.zeros≤65535
theorem Ztf {gs:List Nat} {g:Nat}:groupsD (gs++[g])=groupsD gs * 1000+g % 1000:=by simp [groupsD]
theorem Zo8 (gs:List Nat):∀ k,groupsD (gs.take k) < 1000 ^ k
 | 0=>by simp [groupsD]
 | k + 1=>by
  have ih:=Zo8 gs k
  rw [List.take_add_one]
  cases h:gs[k]? with
  | none =>
   simp only [Option.toList_none,List.append_nil]
   rw [Nat.pow_succ];omega
  | some g =>
   simp only [Option.toList_some]
   rw [Ztf,Nat.pow_succ];omega
theorem Zzu {a e i j:Nat} (h1:a < 10 ^ i) (h2:e≤j):a * 10 ^ e < 10 ^ (i+j):=by
 rw [Nat.pow_add]
 exact Nat.lt_of_lt_of_le (Nat.mul_lt_mul_of_pos_right h1 (Nat.pow_pos (by omega))) (Nat.mul_le_mul_left _ (Nat.pow_le_pow_right (by omega) h2))
theorem D01.size_lt (d:D01):∃ k,k≤540∧d.size < 10 ^ k:=by
 have h1:=Zo8 d.gs 12
 have h3:(1000:Nat) ^ 12=10 ^ 36:=by rw [show (1000:Nat)=10 ^ 3 from rfl,← Nat.pow_mul]
 rw [h3] at h1
 exact ⟨36+d.zeros % 501,by omega,Zzu h1 (Nat.le_refl _)⟩
theorem D01.natAbs (d:D01):d.num.natAbs=d.size:=by unfold D01.num;split<;>simp
theorem D01.digits (d:D01):Lib.nDigits d.num.natAbs≤600:=by
 rw [d.natAbs]
 obtain ⟨k,hk,hl⟩:=d.size_lt
 rcases Nat.eq_zero_or_pos k with h0|h0
 ·subst h0
  rw [show d.size=0 by simpa using hl,Lib.nDigits_small (by decide)];omega
 ·exact Nat.le_trans (Zej h0 hl) (by omega)
end Go.Sx
namespace Go.Proofs.YtbfgldlfciimiaaGreatDoor
open Go Go.Sx
variable {w0:World} {As:List Ent}
instance:ElC Tryz.prog 22 Nat (cN .u16) 0 2:=⟨by obtain ⟨i,h1,h2,h3,h4⟩:=(inferInstance:TI Tryz.prog 22 _ _ _).info;exact ⟨i,_,h1,h2,h3,h4,rfl⟩,by decide⟩
end Go.Proofs.YtbfgldlfciimiaaGreatDoor
namespace Go.Sx
open Go
theorem Zef {s:List UInt8} {z:Int} (h:readW s=some z):textI z=s:=by
 have key:∀ l:List UInt8,(∀ c∈l,isDig c=true)→0 < l.length→(l[0]?=some 48→l.length=1)→Lib.decDigits (numOf l)=l:=fun l hd h0 h1=>by
  by_cases h2:l[0]?=some 48
  ·have h3:=h1 h2
   match l,h3 with
   | [c],_ =>
    simp only [List.getElem?_cons_zero,Option.some.injEq] at h2
    subst h2
    rw [show numOf [48]=0 from rfl,Zb7 (by decide)];rfl
  ·exact (Zyj l.length rfl hd (by intro h;rw [h] at h0;cases h0) h2).symm
 unfold readW at h
 by_cases hp:Lib.hasPrefix s [45]=true
 ·rw [if_pos hp] at h
  split at h
  ·rename_i hc
   cases h
   have hpos:=Zfp (l:=s.drop 1) hc.2.2.1 hc.1 hc.2.2.2
   rw [Zb4,if_pos (by omega),Int.natAbs_neg,Int.natAbs_natCast,key _ hc.2.2.1 hc.1 (fun h=>absurd h hc.2.2.2)]
   cases s with
   | nil=>cases hp
   | cons c r =>
    rw [Zbe,decide_eq_true_eq] at hp
    rw [hp];rfl
  ·cases h
 ·rw [if_neg hp] at h
  split at h
  ·rename_i hc
   cases h
   rw [Zb4,if_neg (by omega),Int.natAbs_natCast,key _ hc.2.2.1 hc.1 hc.2.2.2]
  ·cases h
end Go.Sx
namespace Go.Proofs.YtbfgldlfciimiaaGreatDoor
open Go Go.Sx
variable {w0:World} {As:List Ent}
end Go.Proofs.YtbfgldlfciimiaaGreatDoor
namespace Go.Sx
open Go
end Go.Sx
namespace Go.Proofs.YtbfgldlfciimiaaGreatDoor
open Go Go.Sx
variable {w0:World} {As:List Ent}
theorem Zpz {v:Value} {x:Int} [hf:FtIn As v Nat (cN .i64) (qud x.natAbs)] (ha:(qud x.natAbs).length≤100000000) :
  CallsS Tryz.prog w0 148 [.agg #[.bool (decide (x < 0)),v]] As (PlainR As (-x)):=by
 refine Zae v fun pv cv hv=>?_
 subst hv
 have e1:(-x).natAbs=valQ (qud x.natAbs):=by rw [Za0,Int.natAbs_neg]
 have e2:decide (-x < 0)=(!decide (x < 0)&&decide (valQ (qud x.natAbs)≠0)):=by
  rw [Za0,Bool.eq_iff_iff]
  simp only [Bool.and_eq_true,Bool.not_eq_true',decide_eq_false_iff_not,decide_eq_true_eq]
  omega
 refine Zab Tryz.func148 rfl Tryz.ntmps148 rfl ?_
 repeat' first|refine Kz ?_|intro _
 refine TL.call rfl rfl rfl (Zfg (xs:=qud x.natAbs) (z:=-x) (Za4 _) (by omega) e1 e2) ?_
 rintro _ _ ⟨p,cap,rfl,rfl⟩
 repeat' first|refine Kz ?_|intro _
 (refine Zac ?_)
 exact ⟨_,⟨p,cap,rfl,rfl⟩,Zaa⟩
theorem Zs2 {v o:Value} {x y:Int} [hf:RdIn As v Nat (cN .i64) (qud x.natAbs)] [hg:FtIn As o Nat (cN .i64) (qud y.natAbs)] (ha:(qud x.natAbs).length≤10000000) (hb:(qud y.natAbs).length≤10000000) :
  CallsS Tryz.prog w0 173 [.agg #[.bool (decide (x < 0)),v],.agg #[.bool (decide (y < 0)),o]] As (PlainR As (x - y)):=by
 refine Zae v fun pv cv hv=>Zae o fun po co ho=>?_
 subst hv ho
 refine Zab Tryz.func173 rfl Tryz.ntmps173 rfl ?_
 repeat' first|refine Kz ?_|intro _
 refine Zam (.take 0 (.take 1 (.all [(2,.all [(3,.all [(4,.done)])])]))) ?_
 repeat' first|refine Kf ?_|intro _|constructor
 refine T1.call rfl rfl rfl rfl (Zpz (x:=y) (by omega)) ?_
 rintro _ _ ⟨p,cap,rfl,rfl⟩
 repeat' first|refine Kf ?_|intro _|constructor
 refine T1.call rfl rfl rfl rfl (Zqc (x:=x) (y:=-y) (by omega) (by rw [Int.natAbs_neg];omega)) ?_
 rintro _ _ ⟨p',cap',rfl,rfl⟩
 rw [← Int.sub_eq_add_neg]
 repeat' first|refine Kf ?_|intro _|constructor
 (refine Zac ?_)
 exact ⟨_,⟨p',cap',rfl,rfl⟩,Zaa⟩
theorem Z2t {v o:Value} {x y:Int} [hf:RdIn As v Nat (cN .i64) (qud x.natAbs)] [hg:FtIn As o Nat (cN .i64) (qud y.natAbs)] (ha:(qud x.natAbs).length≤10000000) (hb:(qud y.natAbs).length≤10000000) :
  CQ Tryz.prog w0 130 [.agg #[.bool (decide (x < 0)),v],.agg #[.bool (decide (y < 0)),o]] As (.int .i64 (signI (x - y))):=by
 refine Zae v fun pv cv hv=>Zae o fun po co ho=>?_
 subst hv ho
 refine Zab Tryz.func130 rfl Tryz.ntmps130 rfl ?_
 repeat' first|refine Kz ?_|intro _
 refine TL.call rfl rfl rfl (Zs2 (x:=x) (y:=y) ha hb) ?_
 rintro _ _ ⟨p,cap,rfl,rfl⟩
 generalize x - y=z
 have hl0:=Zxh (n:=z.natAbs)
 by_cases hz:z < 0
 ·repeat' first|refine Kz ?_|intro _
  (refine Zac ?_)
  exact ⟨_,⟨by rw [signI,if_pos hz],rfl⟩,Zaa⟩
 ·by_cases hz0:z=0
  ·have hq:(qud z.natAbs).length=0:=hl0.2 (by omega)
   repeat' first|refine Kz ?_|intro _
   (refine Zac ?_)
   exact ⟨_,⟨by rw [signI,if_neg hz,if_pos hz0],rfl⟩,Zaa⟩
  ·have hq:(qud z.natAbs).length≠0:=fun h=>hz0 (by have:=hl0.1 h;omega)
   repeat' first|refine Kz ?_|intro _
   (refine Zac ?_)
   exact ⟨_,⟨by rw [signI,if_neg hz,if_neg hz0],rfl⟩,Zaa⟩
end Go.Proofs.YtbfgldlfciimiaaGreatDoor
namespace Go.Proofs.YtbfgldlfciimiaaGreatDoor
open Go Go.Sx
variable {w0:World} {As:List Ent}
end Go.Proofs.YtbfgldlfciimiaaGreatDoor
