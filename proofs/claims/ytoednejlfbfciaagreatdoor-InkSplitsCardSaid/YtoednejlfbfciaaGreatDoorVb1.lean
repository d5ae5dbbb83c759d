/- Walks: the reference on whole numbers: products, powers. -/
import Derived.Test.YtoednejlfbfciaaGreatDoorVa1
import Derived.Test.YtoednejlfbfciaaGreatDoorPl
import Derived.Test.YtoednejlfbfciaaGreatDoorWb1
set_option maxHeartbeats 1000000
namespace Go.Sx
open Go
theorem Zn6 {x y:Int}:decide (x * y < 0)=(!decide (decide (x < 0)=decide (y < 0))&&decide (x.natAbs * y.natAbs≠0)):=by
 rw [Bool.eq_iff_iff,decide_eq_true_eq,← Int.natAbs_mul]
 simp only [Bool.and_eq_true,Bool.not_eq_true',decide_eq_false_iff_not,decide_eq_true_eq]
 rcases Int.lt_trichotomy x 0 with h|h|h
 ·rcases Int.lt_trichotomy y 0 with k|k|k
  ·have:=Int.mul_pos_of_neg_of_neg h k
   simp [h,k];omega
  ·subst k;simp
  ·have:=Int.mul_neg_of_neg_of_pos h k
   have hk:¬ y < 0:=by omega
   simp [h,hk];omega
 ·subst h;simp
 ·rcases Int.lt_trichotomy y 0 with k|k|k
  ·have:=Int.mul_neg_of_pos_of_neg h k
   have hk:¬ x < 0:=by omega
   simp [k,hk];omega
  ·subst k;simp
  ·have:=Int.mul_pos h k
   have hk:¬ x < 0:=by omega
   have hk':¬ y < 0:=by omega
   simp [hk,hk'];omega
end Go.Sx
namespace Go.Proofs.YtoednejlfbfciaaGreatDoor
open Go Go.Sx
variable {w0:World} {As:List Ent}
theorem Zfl {v o:Value} {xs ys:List Nat} [hf:RdIn As v Nat (cN .i64) xs] [hg:RdIn As o Nat (cN .i64) ys] (hsa:∀ x∈xs,x < 10000) (hsb:∀ y∈ys,y≤10000) (hY:valQ ys≤10000 ^ ys.length) (ha:xs.length≤100000000) (hb:ys.length≤100000000):CallsS Tryz.prog w0 146 [v,o] As (QudR As (valQ xs * valQ ys)):=by
 have hrl:(List.replicate (xs.length+ys.length) 0).length=xs.length+ys.length:=List.length_replicate
 refine Zab Tryz.func146 rfl Tryz.ntmps146 rfl ?_
 repeat' first|refine Kz ?_|intro _
 rename_i sv
 refine Tri.loop (ι:=Nat × List Nat) (fun s=>s.1≤xs.length∧s.2.length=xs.length+ys.length∧(∀ x∈s.2,x < 10000)∧valQ s.2=valQ (xs.take s.1) * valQ ys) (fun s=>xs.length - s.1)
  (fun s=>[(0,v),(1,o),(5,sv),(6,.int .i64 (s.1:Int))]) (fun s=>.ow (cN .i64) 3 sv s.2::As)
  (0,List.replicate (xs.length+ys.length) 0) ⟨by omega,hrl,Zgi _,by simp [Zfa,valQ]⟩ Zae Zaa ?_
 rintro ⟨i,zs⟩ ⟨hi,hxl,hxs,hval⟩
 simp only at hi hxl hxs hval
 show Tri _ _ _ _ [(0,v),(1,o),(5,sv),(6,.int .i64 (i:Int))] (.ow (cN .i64) 3 sv zs::As) _
 repeat' first|refine Kz ?_|intro _
 (refine Kx (fun hc=>?_) fun hc=>?_)
 ·obtain ⟨d,hd⟩:∃ d,xs[i]?=some d:=⟨_,List.getElem?_eq_getElem (by omega)⟩
  have hd9:=hsa d (List.mem_of_getElem? hd)
  have hta:=Zcx hd
  have hap:∀ k,k≤xs.length→valQ (xs.take k) * valQ ys < 10000 ^ (k+ys.length):=fun k hk=>by
   have h1:=Zhu (xs:=xs.take k) fun x hx=>hsa x (List.mem_of_mem_take hx)
   rw [List.length_take,Nat.min_eq_left hk] at h1
   rw [Nat.pow_add]
   rcases Nat.eq_zero_or_pos (valQ ys) with h0|h0
   ·rw [h0,Nat.mul_zero];exact Nat.mul_pos (Nat.pow_pos (by omega)) (Nat.pow_pos (by omega))
   ·exact Nat.lt_of_lt_of_le (Nat.mul_lt_mul_of_pos_right h1 h0) (Nat.mul_le_mul_left _ hY)
  have hxz:zs[i+ys.length]?=some 0:=by
   obtain ⟨z,hz⟩:∃ z,zs[i+ys.length]?=some z:=⟨_,List.getElem?_eq_getElem (by omega)⟩
   rw [Zj8 (n:=i+ys.length) (by rw [hval];exact hap i (by omega)) (Nat.le_refl _) hz] at hz
   exact hz
  repeat' first|refine Kz ?_|intro _
  refine Tri.loop (ι:=Nat × List Nat × Nat) (fun s=>s.1≤ys.length∧s.2.1.length=xs.length+ys.length∧(∀ x∈s.2.1,x < 10000)∧s.2.2≤10000∧s.2.1[i+ys.length]?=some 0∧valQ s.2.1+10000 ^ (i+s.1) * s.2.2=valQ (xs.take i) * valQ ys+10000 ^ i * d * valQ (ys.take s.1)) (fun s=>ys.length - s.1)
   (fun s=>[(0,v),(1,o),(5,sv),(6,.int .i64 (i:Int)),(7,.int .i64 (s.2.2:Int)),(8,.int .i64 (s.1:Int))]) (fun s=>.ow (cN .i64) 3 sv s.2.1::As)
   (0,zs,0) ⟨by omega,hxl,hxs,by simp only;omega,hxz,by simp [valQ,hval]⟩ Zae Zaa ?_
  rintro ⟨j,us,c⟩ ⟨hj,hyl,hys,hc9,hyz,hyv⟩
  simp only at hj hyl hys hc9 hyz hyv
  show Tri _ _ _ _ [(0,v),(1,o),(5,sv),(6,.int .i64 (i:Int)),(7,.int .i64 (c:Int)),(8,.int .i64 (j:Int))] (.ow (cN .i64) 3 sv us::As) _
  repeat' first|refine Kz ?_|intro _
  (refine Kx (fun hc=>?_) fun hc=>?_)
  ·obtain ⟨ee,he⟩:∃ ee,ys[j]?=some ee:=⟨_,List.getElem?_eq_getElem (by omega)⟩
   have he9:=hsb ee (List.mem_of_getElem? he)
   have htb:=Zcx he
   obtain ⟨p,hp⟩:∃ p,us[i+j]?=some p:=⟨_,List.getElem?_eq_getElem (by omega)⟩
   have hp9:=hys p (List.mem_of_getElem? hp)
   have hlim:d * ee≤9999 * 10000:=Nat.mul_le_mul (by omega) he9
   have hde:(d:Int) * (ee:Int)=((d * ee:Nat):Int):=(Int.natCast_mul d ee).symm
   repeat' first|refine Kz ?_|intro _
   refine Zau (.take 0 (.take 1 (.take 2 (.take 3 (.take 4 (.take 5 (.take 6 (.take 7 (.take 8 (.take 9 (.take 10 (.take 11 (.take 12 (.take 13 (.take 14 (.take 15 (.take 16 (.take 17 (.take 18 (.done)))))))))))))))))))) ?_
   repeat' first|refine Kf ?_|intro _|constructor
   refine Post.round (j+1,us.set (i+j) ((c+p+d * ee) % 10000),(c+p+d * ee) / 10000) ⟨by simp only;omega,by simpa using hyl,Zez hys (by omega),by simp only;omega,?_,?_⟩ (by simp only;omega) Zae (Ents.refl _)
   ·simp only
    rw [List.getElem?_set_ne (by omega)]
    exact hyz
   ·simp only
    have h1:=Znl (Zj7 (g:=(c+p+d * ee) % 10000) hp) (rfl:c+p+d * ee=c+p+d * ee) hyv
    rw [show i+(j+1)=(i+j)+1 by omega,Nat.pow_succ,h1,htb,Nat.mul_add,Nat.pow_add,Nat.add_assoc]
    congr 2
    simp only [Nat.mul_assoc,Nat.mul_left_comm]
  ·have hje:j=ys.length:=by omega
   subst hje
   rw [Zgy (Nat.le_refl _)] at hyv
   have hc0:c < 10000:=by
        have h1:=hap (i+1) (by omega)
        rw [hta,Nat.add_mul,← hyv,show i+1+ys.length=(i+ys.length)+1 by omega,Nat.pow_succ] at h1
        exact Nat.lt_of_mul_lt_mul_left (a:=10000 ^ (i+ys.length)) (by omega)
   repeat' first|refine Kz ?_|intro _
   refine Post.round (i+1,us.set (i+ys.length) c) ⟨by simp only;omega,by simpa using hyl,Zez hys hc0,?_⟩ (by simp only;omega) Zae Zaa
   simp only
   have h1:=Zj7 (g:=c) hyz
   rw [hta,Nat.add_mul]
   omega
 ·have hie:i=xs.length:=by omega
  rw [Zgy (by omega)] at hval
  repeat' first|refine Kz ?_|intro _
  refine TL.ents Ents.freeze ?_
  refine TL.call rfl rfl rfl (Zg6 hxs (by omega)) ?_
  rintro _ _ ⟨p,cap,rfl,rfl⟩
  rw [hval]
  repeat' first|refine Kz ?_|intro _
  (refine Zac ?_)
  exact ⟨_,⟨p,cap,rfl,rfl⟩,Zaa⟩
theorem Zb1 {v o:Value} {x y:Int} [hf:RdIn As v Nat (cN .i64) (qud x.natAbs)] [hg:RdIn As o Nat (cN .i64) (qud y.natAbs)] (ha:(qud x.natAbs).length≤100000000) (hb:(qud y.natAbs).length≤100000000) :
  CallsS Tryz.prog w0 101 [.agg #[.bool (decide (x < 0)),v],.agg #[.bool (decide (y < 0)),o]] As (PlainR As (x * y)):=by
 refine Zad v fun pv cv hv=>Zad o fun po co ho=>?_
 subst hv ho
 have e1:(x * y).natAbs=valQ (qud (x.natAbs * y.natAbs)):=by rw [Zal];exact Int.natAbs_mul x y
 have e2:decide (x * y < 0)=(!decide (decide (x < 0)=decide (y < 0))&&decide (valQ (qud (x.natAbs * y.natAbs))≠0)):=by rw [Zal];exact Zn6
 have hml:=Za3 x.natAbs y.natAbs
 refine Zab Tryz.func101 rfl Tryz.ntmps101 rfl ?_
 repeat' first|refine Kz ?_|intro _
 refine Zau (.take 0 (.take 1 (.take 2 (.take 3 (.take 4 (.take 5 (.take 6 (.take 7 (.take 8 (.all [(9,.all [(10,.all [(11,.done)])])])))))))))) ?_
 repeat' first|refine Kf ?_|intro _|constructor
 refine T1.call rfl rfl rfl rfl (Zfl (Zam _) (fun y hy=>Nat.le_of_lt (Zam _ y hy)) (by rw [Zal];exact Nat.le_of_lt (Zax _)) ha hb) ?_
 rintro _ _ ⟨p,cap,rfl,rfl⟩
 rw [Zal,Zal]
 repeat' first|refine Kf ?_|intro _|constructor
 refine T1.call rfl rfl rfl rfl (Zdj (xs:=qud (x.natAbs * y.natAbs)) (z:=x * y) (Zam _) (by omega) e1 e2) ?_
 rintro _ _ ⟨p',cap',rfl,rfl⟩
 repeat' first|refine Kf ?_|intro _|constructor
 (refine Zac ?_)
 exact ⟨_,⟨p',cap',rfl,rfl⟩,Zaa⟩
end Go.Proofs.YtoednejlfbfciaaGreatDoor
namespace Go.Sx
open Go
structure D01 where
 below:Bool
 gv:Value
 gs:List Nat
 zeros:Nat
def groupsD (gs:List Nat):Nat:=gs.foldl (fun n g=>n * 1000+g % 1000) 0
def D01.size (d:D01):Nat:=groupsD (d.gs.take 12) * 10 ^ (d.zeros % 501)
def D01.num (d:D01):Int:=if d.below then -(d.size:Int) else (d.size:Int)
def D01.cells (d:D01):List Value:=[.bool d.below,d.gv,.int .u16 (d.zeros:Int)]
def D01.ok (d:D01):Prop:=(∀ g∈d.gs,g≤65535)∧d.gs.length≤9223372036854775807∧d.zeros≤65535
theorem Zmr {gs:List Nat} {g:Nat}:groupsD (gs++[g])=groupsD gs * 1000+g % 1000:=by simp [groupsD]
theorem Zjq (gs:List Nat):∀ k,groupsD (gs.take k) < 1000 ^ k
 | 0=>by simp [groupsD]
 | k + 1=>by
  have ih:=Zjq gs k
  rw [List.take_add_one]
  cases h:gs[k]? with
  | none =>
     simp only [Option.toList_none,List.append_nil]
     rw [Nat.pow_succ];omega
  | some g =>
     simp only [Option.toList_some]
     rw [Zmr,Nat.pow_succ];omega
theorem Zq2 {a e i j:Nat} (h1:a < 10 ^ i) (h2:e≤j):a * 10 ^ e < 10 ^ (i+j):=by
 rw [Nat.pow_add]
 exact Nat.lt_of_lt_of_le (Nat.mul_lt_mul_of_pos_right h1 (Nat.pow_pos (by omega))) (Nat.mul_le_mul_left _ (Nat.pow_le_pow_right (by omega) h2))
theorem D01.size_lt (d:D01):∃ k,k≤540∧d.size < 10 ^ k:=by
 have h1:=Zjq d.gs 12
 have h3:(1000:Nat) ^ 12=10 ^ 36:=by rw [show (1000:Nat)=10 ^ 3 from rfl,← Nat.pow_mul]
 rw [h3] at h1
 exact ⟨36+d.zeros % 501,by omega,Zq2 h1 (Nat.le_refl _)⟩
theorem D01.natAbs (d:D01):d.num.natAbs=d.size:=by unfold D01.num;split<;>simp
theorem D01.digits (d:D01):Lib.nDigits d.num.natAbs≤600:=by
 rw [d.natAbs]
 obtain ⟨k,hk,hl⟩:=d.size_lt
 rcases Nat.eq_zero_or_pos k with h0|h0
 ·subst h0
  rw [show d.size=0 by simpa using hl,Lib.nDigits_small (by decide)];omega
 ·exact Nat.le_trans (Zbz h0 hl) (by omega)
end Go.Sx
namespace Go.Proofs.YtoednejlfbfciaaGreatDoor
open Go Go.Sx
variable {w0:World} {As:List Ent}
instance:ElC Tryz.prog 32 Nat (cN .u16) 0 2:=⟨by obtain ⟨i,h1,h2,h3,h4⟩:=(inferInstance:TI Tryz.prog 32 _ _ _).info;exact ⟨i,_,h1,h2,h3,h4,rfl⟩,by decide⟩
end Go.Proofs.YtoednejlfbfciaaGreatDoor
namespace Go.Sx
open Go
theorem Zb9 {s:List UInt8} {z:Int} (h:readW s=some z):textI z=s:=by
 have key:∀ l:List UInt8,(∀ c∈l,isDig c=true)→0 < l.length→(l[0]?=some 48→l.length=1)→Lib.decDigits (numOf l)=l:=fun l hd h0 h1=>by
  by_cases h2:l[0]?=some 48
  ·have h3:=h1 h2
   match l,h3 with
   | [c],_ =>
        simp only [List.getElem?_cons_zero,Option.some.injEq] at h2
        subst h2
        rw [show numOf [48]=0 from rfl,Zbo (by decide)];rfl
  ·exact (Zp2 l.length rfl hd (by intro h;rw [h] at h0;cases h0) h2).symm
 unfold readW at h
 by_cases hp:Lib.hasPrefix s [45]=true
 ·rw [if_pos hp] at h
  split at h
  ·rename_i hc
   cases h
   have hpos:=Zdr (l:=s.drop 1) hc.2.2.1 hc.1 hc.2.2.2
   rw [Zbi,if_pos (by omega),Int.natAbs_neg,Int.natAbs_natCast,key _ hc.2.2.1 hc.1 (fun h=>absurd h hc.2.2.2)]
   cases s with
   | nil=>cases hp
   | cons c r =>
        rw [Zat,decide_eq_true_eq] at hp
        rw [hp];rfl
  ·cases h
 ·rw [if_neg hp] at h
  split at h
  ·rename_i hc
   cases h
   rw [Zbi,if_neg (by omega),Int.natAbs_natCast,key _ hc.2.2.1 hc.1 hc.2.2.2]
  ·cases h
end Go.Sx
namespace Go.Proofs.YtoednejlfbfciaaGreatDoor
open Go Go.Sx
variable {w0:World} {As:List Ent}
end Go.Proofs.YtoednejlfbfciaaGreatDoor
namespace Go.Sx
open Go
theorem Zmb (a b:Nat):(qud (a+b)).length≤max (qud a).length (qud b).length+1:=by
 refine Zas ?_
 have h1:=Nat.lt_of_lt_of_le (Zax a) (Nat.pow_le_pow_right (n:=10000) (by omega) (Nat.le_max_left (qud a).length (qud b).length))
 have h2:=Nat.lt_of_lt_of_le (Zax b) (Nat.pow_le_pow_right (n:=10000) (by omega) (Nat.le_max_right (qud a).length (qud b).length))
 rw [Nat.pow_succ]
 omega
theorem Znw (x y:Int):(qud (x - y).natAbs).length≤max (qud x.natAbs).length (qud y.natAbs).length+1 :=
 Nat.le_trans (Zbg (show (x - y).natAbs≤x.natAbs+y.natAbs by omega)) (Zmb _ _)
end Go.Sx
namespace Go.Proofs.YtoednejlfbfciaaGreatDoor
open Go Go.Sx
variable {w0:World} {As:List Ent}
theorem Zhg {v:Value} {x:Int} [hf:FtIn As v Nat (cN .i64) (qud x.natAbs)] (ha:(qud x.natAbs).length≤100000000) :
  CallsS Tryz.prog w0 145 [.agg #[.bool (decide (x < 0)),v]] As (PlainR As (-x)):=by
 refine Zad v fun pv cv hv=>?_
 subst hv
 have e1:(-x).natAbs=valQ (qud x.natAbs):=by rw [Zal,Int.natAbs_neg]
 have e2:decide (-x < 0)=(!decide (x < 0)&&decide (valQ (qud x.natAbs)≠0)):=by
  rw [Zal,Bool.eq_iff_iff]
  simp only [Bool.and_eq_true,Bool.not_eq_true',decide_eq_false_iff_not,decide_eq_true_eq]
  omega
 refine Zab Tryz.func145 rfl Tryz.ntmps145 rfl ?_
 repeat' first|refine Kz ?_|intro _
 refine TL.call rfl rfl rfl (Zdj (xs:=qud x.natAbs) (z:=-x) (Zam _) (by omega) e1 e2) ?_
 rintro _ _ ⟨p,cap,rfl,rfl⟩
 repeat' first|refine Kz ?_|intro _
 (refine Zac ?_)
 exact ⟨_,⟨p,cap,rfl,rfl⟩,Zaa⟩
theorem Zmk {v o:Value} {x y:Int} [hf:RdIn As v Nat (cN .i64) (qud x.natAbs)] [hg:FtIn As o Nat (cN .i64) (qud y.natAbs)] (ha:(qud x.natAbs).length≤10000000) (hb:(qud y.natAbs).length≤10000000) :
  CallsS Tryz.prog w0 142 [.agg #[.bool (decide (x < 0)),v],.agg #[.bool (decide (y < 0)),o]] As (PlainR As (x - y)):=by
 refine Zad v fun pv cv hv=>Zad o fun po co ho=>?_
 subst hv ho
 refine Zab Tryz.func142 rfl Tryz.ntmps142 rfl ?_
 repeat' first|refine Kz ?_|intro _
 refine Zau (.take 0 (.take 1 (.all [(2,.all [(3,.all [(4,.done)])])]))) ?_
 repeat' first|refine Kf ?_|intro _|constructor
 refine T1.call rfl rfl rfl rfl (Zhg (x:=y) (by omega)) ?_
 rintro _ _ ⟨p,cap,rfl,rfl⟩
 repeat' first|refine Kf ?_|intro _|constructor
 refine T1.call rfl rfl rfl rfl (Zhl (x:=x) (y:=-y) (by omega) (by rw [Int.natAbs_neg];omega)) ?_
 rintro _ _ ⟨p',cap',rfl,rfl⟩
 rw [← Int.sub_eq_add_neg]
 repeat' first|refine Kf ?_|intro _|constructor
 (refine Zac ?_)
 exact ⟨_,⟨p',cap',rfl,rfl⟩,Zaa⟩
theorem Zh6 {v o:Value} {x y:Int} [hf:RdIn As v Nat (cN .i64) (qud x.natAbs)] [hg:FtIn As o Nat (cN .i64) (qud y.natAbs)] (ha:(qud x.natAbs).length≤10000000) (hb:(qud y.natAbs).length≤10000000) :
  CQ Tryz.prog w0 96 [.agg #[.bool (decide (x < 0)),v],.agg #[.bool (decide (y < 0)),o]] As (.int .i64 (signI (x - y))):=by
 refine Zad v fun pv cv hv=>Zad o fun po co ho=>?_
 subst hv ho
 refine Zab Tryz.func96 rfl Tryz.ntmps96 rfl ?_
 repeat' first|refine Kz ?_|intro _
 refine TL.call rfl rfl rfl (Zmk (x:=x) (y:=y) ha hb) ?_
 rintro _ _ ⟨p,cap,rfl,rfl⟩
 generalize x - y=z
 have hl0:=Zpi (n:=z.natAbs)
 by_cases hz:z < 0
 ·repeat' first|refine Kz ?_|intro _
  (refine Zac ?_)
  exact ⟨_,⟨by rw [signI,if_pos hz],rfl⟩,Zaa⟩
 ·by_cases hz0:z=0
  ·have hq:(qud z.natAbs).length=0:=hl0.2 (by omega)
   repeat' first|refine Kz ?_|intro _
   (refine Zac ?_)
   exact ⟨_,⟨by rw [signI,if_neg hz,if_pos hz0],rfl⟩,Zaa⟩
  ·have hq:(qud z.natAbs).length≠0:=fun h=>hz0 (by have:=hl0.1 h;omega)
   repeat' first|refine Kz ?_|intro _
   (refine Zac ?_)
   exact ⟨_,⟨by rw [signI,if_neg hz,if_neg hz0],rfl⟩,Zaa⟩
end Go.Proofs.YtoednejlfbfciaaGreatDoor
namespace Go.Proofs.YtoednejlfbfciaaGreatDoor
open Go Go.Sx
variable {w0:World} {As:List Ent}
theorem Zmo {v:Value} {x:Int} [hf:RdIn As v Nat (cN .i64) (qud x.natAbs)] (ha:(qud x.natAbs).length≤1000000) :
  CQ Tryz.prog w0 61 [.agg #[.bool (decide (x < 0)),v]] As (.tuple #[.int .i64 (if -9223372036854775808≤x∧x≤9223372036854775807 then x else 0),.int .i64 (if -9223372036854775808≤x∧x≤9223372036854775807 then 0 else 6)]):=by
 refine Zad v fun pv cv hv=>?_
 subst hv
 have hsa:=Zam x.natAbs
 have l1:(qud (-9223372036854775808:Int).natAbs).length≤5:=Zas (by decide)
 have l2:(qud (9223372036854775807:Int).natAbs).length≤5:=Zas (by decide)
 refine Zab Tryz.func61 rfl Tryz.ntmps61 rfl ?_
 repeat' first|refine Kz ?_|intro _
 rename_i b1
 refine Zau (.take 0 (.all [(1,.all [(2,.take 3 (.take 4 (.take 5 (.all [(6,.all [(7,.take 8 (.take 9 (.done)))])]))))])])) ?_
 repeat' first|refine Kf ?_|intro _|constructor
 refine T1.call rfl rfl rfl rfl (Zcd (n:=-9223372036854775808) (by decide) (by decide)) ?_
 rintro _ _ ⟨p1,cap1,rfl,rfl⟩
 repeat' first|refine Kf ?_|intro _|constructor
 refine Kw rfl (Zh6 (x:=x) (y:=-9223372036854775808) (by omega) (by omega)) ?_
 by_cases hlo:x < -9223372036854775808
 ·have e1:signI (x - -9223372036854775808) < 0:=by unfold signI;rw [if_pos (by omega)];decide
  rw [if_neg (by omega),if_neg (by omega)]
  repeat' first|refine Kf ?_|intro _|constructor
  exact Kv
 have e1:¬ signI (x - -9223372036854775808) < 0:=by unfold signI;rw [if_neg (by omega)];split<;>decide
 repeat' first|refine Kf ?_|intro _|constructor
 refine T1.call rfl rfl rfl rfl (Zcd (n:=9223372036854775807) (by decide) (by decide)) ?_
 rintro _ _ ⟨p2,cap2,rfl,rfl⟩
 repeat' first|refine Kf ?_|intro _|constructor
 refine Kw rfl (Zh6 (x:=x) (y:=9223372036854775807) (by omega) (by omega)) ?_
 by_cases hhi:9223372036854775807 < x
 ·have e2:0 < signI (x - 9223372036854775807):=by unfold signI;rw [if_neg (by omega),if_neg (by omega)];decide
  rw [if_neg (by omega),if_neg (by omega)]
  repeat' first|refine Kf ?_|intro _|constructor
  exact Kv
 have e2:¬ 0 < signI (x - 9223372036854775807):=by unfold signI;split<;>(try split)<;>omega
 rw [if_pos (by omega),if_pos (by omega)]
 repeat' first|refine Kf ?_|intro _|constructor
 refine Tri.loop (ι:=Nat) (fun j=>j≤(qud x.natAbs).length) (fun j=>j)
  (fun j=>[(1,.pointer (some ⟨b1,0,none⟩)),(4,.int .i64 (-((x.natAbs / 10000 ^ j:Nat):Int))),(5,.int .i64 ((j:Int) - 1))]) (fun _=>.cl b1 [.bool (decide (x < 0)),.slice pv (qud x.natAbs).length cv] 98::As) (qud x.natAbs).length (Nat.le_refl _) (by rw [Nat.div_eq_of_lt (Zax _)];(exact Zae)) Zaa ?_
 intro j hj
 cases j with
 | zero =>
  rw [show ((0:Nat):Int) - 1=-1 from rfl,Nat.pow_zero,Nat.div_one]
  by_cases hx:x < 0
  ·have e3:-((x.natAbs:Nat):Int)=x:=by omega
   rw [e3]
   repeat' first|refine Kz ?_|intro _
   exact Kv
  ·have e3:-((x.natAbs:Nat):Int)=-x:=by omega
   rw [e3]
   repeat' first|refine Kz ?_|intro _
   (refine Zac ?_)
   exact ⟨_,⟨by rw [Int.neg_neg],rfl⟩,Zaa⟩
 | succ j =>
  rw [show ((j+1:Nat):Int) - 1=(j:Int) by omega]
  obtain ⟨d,hd⟩:∃ d,(qud x.natAbs)[j]?=some d:=⟨_,List.getElem?_eq_getElem (by omega)⟩
  obtain ⟨k1,k2,k3⟩:=Zfk hd
  have hq:=Nat.div_le_self x.natAbs (10000 ^ j)
  generalize x.natAbs / 10000 ^ (j+1)=Q at k1 ⊢
  repeat' first|refine Kz ?_|intro _
  refine Post.round j (by omega) (by omega) ?_ Zaa
  rw [show (-((x.natAbs / 10000 ^ j:Nat):Int))=-(Q:Int) * 10000 - (d:Int) by rw [k1];omega]
  (exact Zae)
end Go.Proofs.YtoednejlfbfciaaGreatDoor
