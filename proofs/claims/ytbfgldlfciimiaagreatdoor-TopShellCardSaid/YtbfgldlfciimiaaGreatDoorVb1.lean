/- Walks: the reference on whole numbers: products, powers. -/
import Derived.Test.YtbfgldlfciimiaaGreatDoorVa1
import Derived.Test.YtbfgldlfciimiaaGreatDoorPl
import Derived.Test.YtbfgldlfciimiaaGreatDoorWb1
set_option maxHeartbeats 1000000
namespace Go.Sx
open Go
end Go.Sx
namespace Go.Proofs.YtbfgldlfciimiaaGreatDoor
open Go Go.Sx
variable {w0:World} {As:List Ent}
theorem Zhp {v o:Value} {xs ys:List Nat} [hf:RdIn As v Nat (cN .i64) xs] [hg:RdIn As o Nat (cN .i64) ys] (hsa:∀ x∈xs,x < 10000) (hsb:∀ y∈ys,y≤10000) (hY:valQ ys≤10000 ^ ys.length) (ha:xs.length≤100000000) (hb:ys.length≤100000000):CallsS Tryz.prog w0 174 [v,o] As (QudR As (valQ xs * valQ ys)):=by
 have hrl:(List.replicate (xs.length+ys.length) 0).length=xs.length+ys.length:=List.length_replicate
 refine Zab Tryz.func174 rfl Tryz.ntmps174 rfl ?_
 repeat' first|refine Kz ?_|intro _
 rename_i sv
 refine Tri.loop (ι:=Nat × List Nat) (fun s=>s.1≤xs.length∧s.2.length=xs.length+ys.length∧(∀ x∈s.2,x < 10000)∧valQ s.2=valQ (xs.take s.1) * valQ ys) (fun s=>xs.length - s.1)
  (fun s=>[(0,v),(1,o),(5,sv),(6,.int .i64 (s.1:Int))]) (fun s=>.ow (cN .i64) 3 sv s.2::As)
  (0,List.replicate (xs.length+ys.length) 0) ⟨by omega,hrl,Ziz _,by simp [Zhb,valQ]⟩ Zad Zaa ?_
 rintro ⟨i,zs⟩ ⟨hi,hxl,hxs,hval⟩
 simp only at hi hxl hxs hval
 show Tri _ _ _ _ [(0,v),(1,o),(5,sv),(6,.int .i64 (i:Int))] (.ow (cN .i64) 3 sv zs::As) _
 repeat' first|refine Kz ?_|intro _
 (refine Kx (fun hc=>?_) fun hc=>?_)
 ·obtain ⟨d,hd⟩:∃ d,xs[i]?=some d:=⟨_,List.getElem?_eq_getElem (by omega)⟩
  have hd9:=hsa d (List.mem_of_getElem? hd)
  have hta:=Zeb hd
  have hap:∀ k,k≤xs.length→valQ (xs.take k) * valQ ys < 10000 ^ (k+ys.length):=fun k hk=>by
   have h1:=Zkw (xs:=xs.take k) fun x hx=>hsa x (List.mem_of_mem_take hx)
   rw [List.length_take,Nat.min_eq_left hk] at h1
   rw [Nat.pow_add]
   rcases Nat.eq_zero_or_pos (valQ ys) with h0|h0
   ·rw [h0,Nat.mul_zero];exact Nat.mul_pos (Nat.pow_pos (by omega)) (Nat.pow_pos (by omega))
   ·exact Nat.lt_of_lt_of_le (Nat.mul_lt_mul_of_pos_right h1 h0) (Nat.mul_le_mul_left _ hY)
  have hxz:zs[i+ys.length]?=some 0:=by
   obtain ⟨z,hz⟩:∃ z,zs[i+ys.length]?=some z:=⟨_,List.getElem?_eq_getElem (by omega)⟩
   rw [Zok (n:=i+ys.length) (by rw [hval];exact hap i (by omega)) (Nat.le_refl _) hz] at hz
   exact hz
  repeat' first|refine Kz ?_|intro _
  refine Tri.loop (ι:=Nat × List Nat × Nat) (fun s=>s.1≤ys.length∧s.2.1.length=xs.length+ys.length∧(∀ x∈s.2.1,x < 10000)∧s.2.2≤10000∧s.2.1[i+ys.length]?=some 0∧valQ s.2.1+10000 ^ (i+s.1) * s.2.2=valQ (xs.take i) * valQ ys+10000 ^ i * d * valQ (ys.take s.1)) (fun s=>ys.length - s.1)
   (fun s=>[(0,v),(1,o),(5,sv),(6,.int .i64 (i:Int)),(7,.int .i64 (s.2.2:Int)),(8,.int .i64 (s.1:Int))]) (fun s=>.ow (cN .i64) 3 sv s.2.1::As)
   (0,zs,0) ⟨by omega,hxl,hxs,by simp only;omega,hxz,by simp [valQ,hval]⟩ Zad Zaa ?_
  rintro ⟨j,us,c⟩ ⟨hj,hyl,hys,hc9,hyz,hyv⟩
  simp only at hj hyl hys hc9 hyz hyv
  show Tri _ _ _ _ [(0,v),(1,o),(5,sv),(6,.int .i64 (i:Int)),(7,.int .i64 (c:Int)),(8,.int .i64 (j:Int))] (.ow (cN .i64) 3 sv us::As) _
  repeat' first|refine Kz ?_|intro _
  (refine Kx (fun hc=>?_) fun hc=>?_)
  ·obtain ⟨ee,he⟩:∃ ee,ys[j]?=some ee:=⟨_,List.getElem?_eq_getElem (by omega)⟩
   have he9:=hsb ee (List.mem_of_getElem? he)
   have htb:=Zeb he
   obtain ⟨p,hp⟩:∃ p,us[i+j]?=some p:=⟨_,List.getElem?_eq_getElem (by omega)⟩
   have hp9:=hys p (List.mem_of_getElem? hp)
   have hlim:d * ee≤9999 * 10000:=Nat.mul_le_mul (by omega) he9
   have hde:(d:Int) * (ee:Int)=((d * ee:Nat):Int):=(Int.natCast_mul d ee).symm
   repeat' first|refine Kz ?_|intro _
   refine Zai (.take 0 (.take 1 (.take 2 (.take 3 (.take 4 (.take 5 (.take 6 (.take 7 (.take 8 (.take 9 (.take 10 (.take 11 (.take 12 (.take 13 (.take 14 (.take 15 (.take 16 (.take 17 (.take 18 (.done)))))))))))))))))))) ?_
   repeat' first|refine Kf ?_|intro _|constructor
   refine Post.round (j+1,us.set (i+j) ((c+p+d * ee) % 10000),(c+p+d * ee) / 10000) ⟨by simp only;omega,by simpa using hyl,Zgr hys (by omega),by simp only;omega,?_,?_⟩ (by simp only;omega) Zad (Ents.refl _)
   ·simp only
    rw [List.getElem?_set_ne (by omega)]
    exact hyz
   ·simp only
    have h1:=Zsz (Zoj (g:=(c+p+d * ee) % 10000) hp) (rfl:c+p+d * ee=c+p+d * ee) hyv
    rw [show i+(j+1)=(i+j)+1 by omega,Nat.pow_succ,h1,htb,Nat.mul_add,Nat.pow_add,Nat.add_assoc]
    congr 2
    simp only [Nat.mul_assoc,Nat.mul_left_comm]
  ·have hje:j=ys.length:=by omega
   subst hje
   rw [Zjq (Nat.le_refl _)] at hyv
   have hc0:c < 10000:=by
    have h1:=hap (i+1) (by omega)
    rw [hta,Nat.add_mul,← hyv,show i+1+ys.length=(i+ys.length)+1 by omega,Nat.pow_succ] at h1
    exact Nat.lt_of_mul_lt_mul_left (a:=10000 ^ (i+ys.length)) (by omega)
   repeat' first|refine Kz ?_|intro _
   refine Post.round (i+1,us.set (i+ys.length) c) ⟨by simp only;omega,by simpa using hyl,Zgr hys hc0,?_⟩ (by simp only;omega) Zad Zaa
   simp only
   have h1:=Zoj (g:=c) hyz
   rw [hta,Nat.add_mul]
   omega
 ·have hie:i=xs.length:=by omega
  rw [Zjq (by omega)] at hval
  repeat' first|refine Kz ?_|intro _
  refine TL.ents Ents.freeze ?_
  refine TL.call rfl rfl rfl (Zj1 hxs (by omega)) ?_
  rintro _ _ ⟨p,cap,rfl,rfl⟩
  rw [hval]
  repeat' first|refine Kz ?_|intro _
  (refine Zac ?_)
  exact ⟨_,⟨p,cap,rfl,rfl⟩,Zaa⟩
end Go.Proofs.YtbfgldlfciimiaaGreatDoor
namespace Go.Sx
open Go
structure D01 where
 below:Bool
 gv:Value
 gs:List Nat
 zeros:Nat
def groupsD (gs:List Nat):Nat:=gs.foldl (fun n g=>n * 1000+g % 1000) 0
def D01.size (d:D01):Nat:=groupsD (d.gs.take 12) * 10 ^ (d.zeros % 501)
def D01.num (d:D01):Int:=if d.below then -(d.size:Int) else (d.size:Int)
def D01.cells (d:D01):List Value:=[.bool d.below,d.gv,.int .u16 (d.zeros:Int)]
def D01.ok (d:D01):Prop:=(∀ g∈d.gs,g≤65535)∧d.gs.length≤9223372036854775807∧d.zeros≤65535
theorem Zrm {gs:List Nat} {g:Nat}:groupsD (gs++[g])=groupsD gs * 1000+g % 1000:=by simp [groupsD]
theorem Znt (gs:List Nat):∀ k,groupsD (gs.take k) < 1000 ^ k
 | 0=>by simp [groupsD]
 | k + 1=>by
  have ih:=Znt gs k
  rw [List.take_add_one]
  cases h:gs[k]? with
  | none =>
   simp only [Option.toList_none,List.append_nil]
   rw [Nat.pow_succ];omega
  | some g =>
   simp only [Option.toList_some]
   rw [Zrm,Nat.pow_succ];omega
theorem Zxq {a e i j:Nat} (h1:a < 10 ^ i) (h2:e≤j):a * 10 ^ e < 10 ^ (i+j):=by
 rw [Nat.pow_add]
 exact Nat.lt_of_lt_of_le (Nat.mul_lt_mul_of_pos_right h1 (Nat.pow_pos (by omega))) (Nat.mul_le_mul_left _ (Nat.pow_le_pow_right (by omega) h2))
theorem D01.size_lt (d:D01):∃ k,k≤540∧d.size < 10 ^ k:=by
 have h1:=Znt d.gs 12
 have h3:(1000:Nat) ^ 12=10 ^ 36:=by rw [show (1000:Nat)=10 ^ 3 from rfl,← Nat.pow_mul]
 rw [h3] at h1
 exact ⟨36+d.zeros % 501,by omega,Zxq h1 (Nat.le_refl _)⟩
theorem D01.natAbs (d:D01):d.num.natAbs=d.size:=by unfold D01.num;split<;>simp
theorem D01.digits (d:D01):Lib.nDigits d.num.natAbs≤600:=by
 rw [d.natAbs]
 obtain ⟨k,hk,hl⟩:=d.size_lt
 rcases Nat.eq_zero_or_pos k with h0|h0
 ·subst h0
  rw [show d.size=0 by simpa using hl,Lib.nDigits_small (by decide)];omega
 ·exact Nat.le_trans (Zd6 h0 hl) (by omega)
end Go.Sx
namespace Go.Proofs.YtbfgldlfciimiaaGreatDoor
open Go Go.Sx
variable {w0:World} {As:List Ent}
instance:ElC Tryz.prog 22 Nat (cN .u16) 0 2:=⟨by obtain ⟨i,h1,h2,h3,h4⟩:=(inferInstance:TI Tryz.prog 22 _ _ _).info;exact ⟨i,_,h1,h2,h3,h4,rfl⟩,by decide⟩
end Go.Proofs.YtbfgldlfciimiaaGreatDoor
namespace Go.Sx
open Go
end Go.Sx
namespace Go.Proofs.YtbfgldlfciimiaaGreatDoor
open Go Go.Sx
variable {w0:World} {As:List Ent}
end Go.Proofs.YtbfgldlfciimiaaGreatDoor
namespace Go.Sx
open Go
end Go.Sx
namespace Go.Proofs.YtbfgldlfciimiaaGreatDoor
open Go Go.Sx
variable {w0:World} {As:List Ent}
theorem Zol {v:Value} {x:Int} [hf:FtIn As v Nat (cN .i64) (qud x.natAbs)] (ha:(qud x.natAbs).length≤100000000) :
  CallsS Tryz.prog w0 148 [.agg #[.bool (decide (x < 0)),v]] As (PlainR As (-x)):=by
 refine Zae v fun pv cv hv=>?_
 subst hv
 have e1:(-x).natAbs=valQ (qud x.natAbs):=by rw [Za5,Int.natAbs_neg]
 have e2:decide (-x < 0)=(!decide (x < 0)&&decide (valQ (qud x.natAbs)≠0)):=by
  rw [Za5,Bool.eq_iff_iff]
  simp only [Bool.and_eq_true,Bool.not_eq_true',decide_eq_false_iff_not,decide_eq_true_eq]
  omega
 refine Zab Tryz.func148 rfl Tryz.ntmps148 rfl ?_
 repeat' first|refine Kz ?_|intro _
 refine TL.call rfl rfl rfl (Zet (xs:=qud x.natAbs) (z:=-x) (Za9 _) (by omega) e1 e2) ?_
 rintro _ _ ⟨p,cap,rfl,rfl⟩
 repeat' first|refine Kz ?_|intro _
 (refine Zac ?_)
 exact ⟨_,⟨p,cap,rfl,rfl⟩,Zaa⟩
theorem Zrd {v o:Value} {x y:Int} [hf:RdIn As v Nat (cN .i64) (qud x.natAbs)] [hg:FtIn As o Nat (cN .i64) (qud y.natAbs)] (ha:(qud x.natAbs).length≤10000000) (hb:(qud y.natAbs).length≤10000000) :
  CallsS Tryz.prog w0 173 [.agg #[.bool (decide (x < 0)),v],.agg #[.bool (decide (y < 0)),o]] As (PlainR As (x - y)):=by
 refine Zae v fun pv cv hv=>Zae o fun po co ho=>?_
 subst hv ho
 refine Zab Tryz.func173 rfl Tryz.ntmps173 rfl ?_
 repeat' first|refine Kz ?_|intro _
 refine Zai (.take 0 (.take 1 (.all [(2,.all [(3,.all [(4,.done)])])]))) ?_
 repeat' first|refine Kf ?_|intro _|constructor
 refine T1.call rfl rfl rfl rfl (Zol (x:=y) (by omega)) ?_
 rintro _ _ ⟨p,cap,rfl,rfl⟩
 repeat' first|refine Kf ?_|intro _|constructor
 refine T1.call rfl rfl rfl rfl (Zox (x:=x) (y:=-y) (by omega) (by rw [Int.natAbs_neg];omega)) ?_
 rintro _ _ ⟨p',cap',rfl,rfl⟩
 rw [← Int.sub_eq_add_neg]
 repeat' first|refine Kf ?_|intro _|constructor
 (refine Zac ?_)
 exact ⟨_,⟨p',cap',rfl,rfl⟩,Zaa⟩
end Go.Proofs.YtbfgldlfciimiaaGreatDoor
namespace Go.Proofs.YtbfgldlfciimiaaGreatDoor
open Go Go.Sx
variable {w0:World} {As:List Ent}
end Go.Proofs.YtbfgldlfciimiaaGreatDoor
