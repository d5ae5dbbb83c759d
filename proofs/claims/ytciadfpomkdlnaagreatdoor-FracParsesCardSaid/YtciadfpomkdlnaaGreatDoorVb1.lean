/- Walks: the reference on whole numbers: products, powers. -/
import Derived.Test.YtciadfpomkdlnaaGreatDoorVa1
import Derived.Test.YtciadfpomkdlnaaGreatDoorPl
import Derived.Test.YtciadfpomkdlnaaGreatDoorWb1
set_option maxHeartbeats 1000000
namespace Go.Sx
open Go
theorem Zno {x y:Int}:decide (x * y < 0)=(!decide (decide (x < 0)=decide (y < 0))&&decide (x.natAbs * y.natAbs≠0)):=by
 rw [Bool.eq_iff_iff,decide_eq_true_eq,← Int.natAbs_mul]
 simp only [Bool.and_eq_true,Bool.not_eq_true',decide_eq_false_iff_not,decide_eq_true_eq]
 rcases Int.lt_trichotomy x 0 with h|h|h
 ·rcases Int.lt_trichotomy y 0 with k|k|k
  ·have:=Int.mul_pos_of_neg_of_neg h k
   simp [h,k];omega
  ·subst k;simp
  ·have:=Int.mul_neg_of_neg_of_pos h k
   have hk:¬ y < 0:=by omega
   simp [h,hk];omega
 ·subst h;simp
 ·rcases Int.lt_trichotomy y 0 with k|k|k
  ·have:=Int.mul_neg_of_pos_of_neg h k
   have hk:¬ x < 0:=by omega
   simp [k,hk];omega
  ·subst k;simp
  ·have:=Int.mul_pos h k
   have hk:¬ x < 0:=by omega
   have hk':¬ y < 0:=by omega
   simp [hk,hk'];omega
theorem Zjt (x k:Nat):(qud (x ^ k)).length≤(qud x).length * k+1:=by
 refine Zaj ?_
 have h1:x ^ k≤(10000 ^ (qud x).length) ^ k:=Nat.pow_le_pow_left (Nat.le_of_lt (Zaz x)) k
 rw [← Nat.pow_mul] at h1
 rw [Nat.pow_succ]
 have h2:0 < 10000 ^ ((qud x).length * k):=Nat.pow_pos (by omega)
 omega
end Go.Sx
namespace Go.Proofs.YtciadfpomkdlnaaGreatDoor
open Go Go.Sx
variable {w0:World} {As:List Ent}
theorem Zfj {v o:Value} {xs ys:List Nat} [hf:RdIn As v Nat (cN .i64) xs] [hg:RdIn As o Nat (cN .i64) ys] (hsa:∀ x∈xs,x < 10000) (hsb:∀ y∈ys,y≤10000) (hY:valQ ys≤10000 ^ ys.length) (ha:xs.length≤100000000) (hb:ys.length≤100000000):CallsS Tryz.prog w0 210 [v,o] As (QudR As (valQ xs * valQ ys)):=by
 have hrl:(List.replicate (xs.length+ys.length) 0).length=xs.length+ys.length:=List.length_replicate
 refine Zab Tryz.func210 rfl Tryz.ntmps210 rfl ?_
 repeat' first|refine Kz ?_|intro _
 rename_i sv
 refine Tri.loop (ι:=Nat × List Nat) (fun s=>s.1≤xs.length∧s.2.length=xs.length+ys.length∧(∀ x∈s.2,x < 10000)∧valQ s.2=valQ (xs.take s.1) * valQ ys) (fun s=>xs.length - s.1)
  (fun s=>[(0,v),(1,o),(5,sv),(6,.int .i64 (s.1:Int))]) (fun s=>.ow (cN .i64) 3 sv s.2::As)
  (0,List.replicate (xs.length+ys.length) 0) ⟨by omega,hrl,Zgl _,by simp [Zfa,valQ]⟩ Zae Zaa ?_
 rintro ⟨i,zs⟩ ⟨hi,hxl,hxs,hval⟩
 simp only at hi hxl hxs hval
 show Tri _ _ _ _ [(0,v),(1,o),(5,sv),(6,.int .i64 (i:Int))] (.ow (cN .i64) 3 sv zs::As) _
 repeat' first|refine Kz ?_|intro _
 (refine Kx (fun hc=>?_) fun hc=>?_)
 ·obtain ⟨d,hd⟩:∃ d,xs[i]?=some d:=⟨_,List.getElem?_eq_getElem (by omega)⟩
  have hd9:=hsa d (List.mem_of_getElem? hd)
  have hta:=Zcy hd
  have hap:∀ k,k≤xs.length→valQ (xs.take k) * valQ ys < 10000 ^ (k+ys.length):=fun k hk=>by
   have h1:=Zhz (xs:=xs.take k) fun x hx=>hsa x (List.mem_of_mem_take hx)
   rw [List.length_take,Nat.min_eq_left hk] at h1
   rw [Nat.pow_add]
   rcases Nat.eq_zero_or_pos (valQ ys) with h0|h0
   ·rw [h0,Nat.mul_zero];exact Nat.mul_pos (Nat.pow_pos (by omega)) (Nat.pow_pos (by omega))
   ·exact Nat.lt_of_lt_of_le (Nat.mul_lt_mul_of_pos_right h1 h0) (Nat.mul_le_mul_left _ hY)
  have hxz:zs[i+ys.length]?=some 0:=by
   obtain ⟨z,hz⟩:∃ z,zs[i+ys.length]?=some z:=⟨_,List.getElem?_eq_getElem (by omega)⟩
   rw [Zkg (n:=i+ys.length) (by rw [hval];exact hap i (by omega)) (Nat.le_refl _) hz] at hz
   exact hz
  repeat' first|refine Kz ?_|intro _
  refine Tri.loop (ι:=Nat × List Nat × Nat) (fun s=>s.1≤ys.length∧s.2.1.length=xs.length+ys.length∧(∀ x∈s.2.1,x < 10000)∧s.2.2≤10000∧s.2.1[i+ys.length]?=some 0∧valQ s.2.1+10000 ^ (i+s.1) * s.2.2=valQ (xs.take i) * valQ ys+10000 ^ i * d * valQ (ys.take s.1)) (fun s=>ys.length - s.1)
   (fun s=>[(0,v),(1,o),(5,sv),(6,.int .i64 (i:Int)),(7,.int .i64 (s.2.2:Int)),(8,.int .i64 (s.1:Int))]) (fun s=>.ow (cN .i64) 3 sv s.2.1::As)
   (0,zs,0) ⟨by omega,hxl,hxs,by simp only;omega,hxz,by simp [valQ,hval]⟩ Zae Zaa ?_
  rintro ⟨j,us,c⟩ ⟨hj,hyl,hys,hc9,hyz,hyv⟩
  simp only at hj hyl hys hc9 hyz hyv
  show Tri _ _ _ _ [(0,v),(1,o),(5,sv),(6,.int .i64 (i:Int)),(7,.int .i64 (c:Int)),(8,.int .i64 (j:Int))] (.ow (cN .i64) 3 sv us::As) _
  repeat' first|refine Kz ?_|intro _
  (refine Kx (fun hc=>?_) fun hc=>?_)
  ·obtain ⟨ee,he⟩:∃ ee,ys[j]?=some ee:=⟨_,List.getElem?_eq_getElem (by omega)⟩
   have he9:=hsb ee (List.mem_of_getElem? he)
   have htb:=Zcy he
   obtain ⟨p,hp⟩:∃ p,us[i+j]?=some p:=⟨_,List.getElem?_eq_getElem (by omega)⟩
   have hp9:=hys p (List.mem_of_getElem? hp)
   have hlim:d * ee≤9999 * 10000:=Nat.mul_le_mul (by omega) he9
   have hde:(d:Int) * (ee:Int)=((d * ee:Nat):Int):=(Int.natCast_mul d ee).symm
   repeat' first|refine Kz ?_|intro _
   refine Zau (.take 0 (.take 1 (.take 2 (.take 3 (.take 4 (.take 5 (.take 6 (.take 7 (.take 8 (.take 9 (.take 10 (.take 11 (.take 12 (.take 13 (.take 14 (.take 15 (.take 16 (.take 17 (.take 18 (.done)))))))))))))))))))) ?_
   repeat' first|refine Kf ?_|intro _|constructor
   refine Post.round (j+1,us.set (i+j) ((c+p+d * ee) % 10000),(c+p+d * ee) / 10000) ⟨by simp only;omega,by simpa using hyl,Zes hys (by omega),by simp only;omega,?_,?_⟩ (by simp only;omega) Zae (Ents.refl _)
   ·simp only
    rw [List.getElem?_set_ne (by omega)]
    exact hyz
   ·simp only
    have h1:=Zm2 (Zkf (g:=(c+p+d * ee) % 10000) hp) (rfl:c+p+d * ee=c+p+d * ee) hyv
    rw [show i+(j+1)=(i+j)+1 by omega,Nat.pow_succ,h1,htb,Nat.mul_add,Nat.pow_add,Nat.add_assoc]
    congr 2
    simp only [Nat.mul_assoc,Nat.mul_left_comm]
  ·have hje:j=ys.length:=by omega
   subst hje
   rw [Zg4 (Nat.le_refl _)] at hyv
   have hc0:c < 10000:=by
    have h1:=hap (i+1) (by omega)
    rw [hta,Nat.add_mul,← hyv,show i+1+ys.length=(i+ys.length)+1 by omega,Nat.pow_succ] at h1
    exact Nat.lt_of_mul_lt_mul_left (a:=10000 ^ (i+ys.length)) (by omega)
   repeat' first|refine Kz ?_|intro _
   refine Post.round (i+1,us.set (i+ys.length) c) ⟨by simp only;omega,by simpa using hyl,Zes hys hc0,?_⟩ (by simp only;omega) Zae Zaa
   simp only
   have h1:=Zkf (g:=c) hyz
   rw [hta,Nat.add_mul]
   omega
 ·have hie:i=xs.length:=by omega
  rw [Zg4 (by omega)] at hval
  repeat' first|refine Kz ?_|intro _
  refine TL.ents Ents.freeze ?_
  refine TL.call rfl rfl rfl (Zhd hxs (by omega)) ?_
  rintro _ _ ⟨p,cap,rfl,rfl⟩
  rw [hval]
  repeat' first|refine Kz ?_|intro _
  (refine Zac ?_)
  exact ⟨_,⟨p,cap,rfl,rfl⟩,Zaa⟩
theorem Zcb {v o:Value} {x y:Int} [hf:RdIn As v Nat (cN .i64) (qud x.natAbs)] [hg:RdIn As o Nat (cN .i64) (qud y.natAbs)] (ha:(qud x.natAbs).length≤100000000) (hb:(qud y.natAbs).length≤100000000) :
  CallsS Tryz.prog w0 152 [.agg #[.bool (decide (x < 0)),v],.agg #[.bool (decide (y < 0)),o]] As (PlainR As (x * y)):=by
 refine Zad v fun pv cv hv=>Zad o fun po co ho=>?_
 subst hv ho
 have e1:(x * y).natAbs=valQ (qud (x.natAbs * y.natAbs)):=by rw [Zal];exact Int.natAbs_mul x y
 have e2:decide (x * y < 0)=(!decide (decide (x < 0)=decide (y < 0))&&decide (valQ (qud (x.natAbs * y.natAbs))≠0)):=by rw [Zal];exact Zno
 have hml:=Zbm x.natAbs y.natAbs
 refine Zab Tryz.func152 rfl Tryz.ntmps152 rfl ?_
 repeat' first|refine Kz ?_|intro _
 refine Zau (.take 0 (.take 1 (.take 2 (.take 3 (.take 4 (.take 5 (.take 6 (.take 7 (.take 8 (.all [(9,.all [(10,.all [(11,.done)])])])))))))))) ?_
 repeat' first|refine Kf ?_|intro _|constructor
 refine T1.call rfl rfl rfl rfl (Zfj (Zap _) (fun y hy=>Nat.le_of_lt (Zap _ y hy)) (by rw [Zal];exact Nat.le_of_lt (Zaz _)) ha hb) ?_
 rintro _ _ ⟨p,cap,rfl,rfl⟩
 rw [Zal,Zal]
 repeat' first|refine Kf ?_|intro _|constructor
 refine T1.call rfl rfl rfl rfl (Zc2 (xs:=qud (x.natAbs * y.natAbs)) (z:=x * y) (Zap _) (by omega) e1 e2) ?_
 rintro _ _ ⟨p',cap',rfl,rfl⟩
 repeat' first|refine Kf ?_|intro _|constructor
 (refine Zac ?_)
 exact ⟨_,⟨p',cap',rfl,rfl⟩,Zaa⟩
theorem Zey {v:Value} {x:Int} {n:Nat} [hf:RdIn As v Nat (cN .i64) (qud x.natAbs)] (ha:(qud x.natAbs).length≤1000000) (hL:(qud x.natAbs).length * n≤1000000) (hn:n≤1000000) :
  CallsS Tryz.prog w0 143 [.agg #[.bool (decide (x < 0)),v],.int .i64 (n:Int)] As (PlainR As (x ^ n)):=by
 refine Zad v fun pv cv hv=>?_
 subst hv
 refine Zab Tryz.func143 rfl Tryz.ntmps143 rfl ?_
 repeat' first|refine Kz ?_|intro _
 refine TL.call rfl rfl rfl (Zaw (n:=1) (by omega) (by omega)) ?_
 rintro _ _ ⟨p,cap,rfl,rfl⟩
 repeat' first|refine Kz ?_|intro _
 rename_i b2 b4 b5
 refine Tri.loop (ι:=Nat × Option Addr × Nat) (fun s=>s.1≤n) (fun s=>n - s.1)
  (fun s=>[(1,.int .i64 (n:Int)),(2,.pointer (some ⟨b2,0,none⟩)),(4,.pointer (some ⟨b4,0,none⟩)),(5,.pointer (some ⟨b5,0,none⟩)),(6,.int .i64 (s.1:Int))])
  (fun s=>.cl b5 [.bool (decide (x ^ s.1 < 0)),.slice s.2.1 (qud (x ^ s.1).natAbs).length s.2.2] 115::.ft (rd (cN .i64) (.slice s.2.1 (qud (x ^ s.1).natAbs).length s.2.2) (qud (x ^ s.1).natAbs))::.cl b4 [.bool false,.slice none 0 0] 115::.cl b2 [.bool (decide (x < 0)),.slice pv (qud x.natAbs).length cv] 115::As)
  (0,p,cap) (by omega) Zae (by simp only [Int.pow_zero];(exact Zaa)) ?_
 rintro ⟨k,pk,ck⟩ hk
 simp only at hk
 show Tri _ _ _ _ [(1,_),(2,_),(4,_),(5,_),(6,.int .i64 (k:Int))] (.cl b5 [.bool (decide (x ^ k < 0)),.slice pk (qud (x ^ k).natAbs).length ck] _::.ft (rd (cN .i64) (.slice pk (qud (x ^ k).natAbs).length ck) (qud (x ^ k).natAbs))::_) _
 have hpl:(qud (x ^ k).natAbs).length≤1000001:=by
  have h1:=Zjt x.natAbs k
  have h2:=Nat.mul_le_mul_left (qud x.natAbs).length hk
  rw [Int.natAbs_pow]
  omega
 repeat' first|refine Kz ?_|intro _
 (refine Kx (fun hc=>?_) fun hc=>?_)
 ·repeat' first|refine Kz ?_|intro _
  refine TL.call rfl rfl rfl (Zcb (x:=x ^ k) (y:=x) (by omega) (by omega)) ?_
  rintro _ _ ⟨p',cap',rfl,rfl⟩
  rw [← Int.pow_succ]
  repeat' first|refine Kz ?_|intro _
  exact Post.round (k+1,p',cap') (by simp only;omega) (by simp only;omega) Zae Zaa
 ·have hkn:k=n:=by omega
  subst hkn
  repeat' first|refine Kz ?_|intro _
  (refine Zac ?_)
  exact ⟨_,⟨pk,ck,rfl,rfl⟩,Zaa⟩
end Go.Proofs.YtciadfpomkdlnaaGreatDoor
namespace Go.Sx
open Go
structure D01 where
 below:Bool
 gv:Value
 gs:List Nat
 zeros:Nat
def groupsD (gs:List Nat):Nat:=gs.foldl (fun n g=>n * 1000+g % 1000) 0
def D01.size (d:D01):Nat:=groupsD (d.gs.take 12) * 10 ^ (d.zeros % 501)
def D01.num (d:D01):Int:=if d.below then -(d.size:Int) else (d.size:Int)
def D01.cells (d:D01):List Value:=[.bool d.below,d.gv,.int .u16 (d.zeros:Int)]
def D01.ok (d:D01):Prop:=(∀ g∈d.gs,g≤65535)∧d.gs.length≤9223372036854775807∧d.zeros≤65535
theorem Zg9 {gs:List Nat} {g:Nat}:groupsD (gs++[g])=groupsD gs * 1000+g % 1000:=by simp [groupsD]
theorem Ze2 (gs:List Nat):∀ k,groupsD (gs.take k) < 1000 ^ k
 | 0=>by simp [groupsD]
 | k + 1=>by
  have ih:=Ze2 gs k
  rw [List.take_add_one]
  cases h:gs[k]? with
  | none =>
   simp only [Option.toList_none,List.append_nil]
   rw [Nat.pow_succ];omega
  | some g =>
   simp only [Option.toList_some]
   rw [Zg9,Nat.pow_succ];omega
theorem Zjx {a e i j:Nat} (h1:a < 10 ^ i) (h2:e≤j):a * 10 ^ e < 10 ^ (i+j):=by
 rw [Nat.pow_add]
 exact Nat.lt_of_lt_of_le (Nat.mul_lt_mul_of_pos_right h1 (Nat.pow_pos (by omega))) (Nat.mul_le_mul_left _ (Nat.pow_le_pow_right (by omega) h2))
theorem Znd {n j k:Nat} (h:n < 10 ^ j) (hj:j≤4 * k):(qud n).length≤k:=by
 refine Zaj (Nat.lt_of_lt_of_le h ?_)
 rw [show (10000:Nat)=10 ^ 4 from rfl,← Nat.pow_mul]
 exact Nat.pow_le_pow_right (by omega) hj
theorem D01.size_lt (d:D01):∃ k,k≤540∧d.size < 10 ^ k:=by
 have h1:=Ze2 d.gs 12
 have h3:(1000:Nat) ^ 12=10 ^ 36:=by rw [show (1000:Nat)=10 ^ 3 from rfl,← Nat.pow_mul]
 rw [h3] at h1
 exact ⟨36+d.zeros % 501,by omega,Zjx h1 (Nat.le_refl _)⟩
theorem D01.natAbs (d:D01):d.num.natAbs=d.size:=by unfold D01.num;split<;>simp
theorem D01.digits (d:D01):Lib.nDigits d.num.natAbs≤600:=by
 rw [d.natAbs]
 obtain ⟨k,hk,hl⟩:=d.size_lt
 rcases Nat.eq_zero_or_pos k with h0|h0
 ·subst h0
  rw [show d.size=0 by simpa using hl,Lib.nDigits_small (by decide)];omega
 ·exact Nat.le_trans (Zb9 h0 hl) (by omega)
end Go.Sx
namespace Go.Proofs.YtciadfpomkdlnaaGreatDoor
open Go Go.Sx
variable {w0:World} {As:List Ent}
instance:ElC Tryz.prog 26 Nat (cN .u16) 0 2:=⟨by obtain ⟨i,h1,h2,h3,h4⟩:=(inferInstance:TI Tryz.prog 26 _ _ _).info;exact ⟨i,_,h1,h2,h3,h4,rfl⟩,by decide⟩
theorem Znf {n k:Nat} (h:n < 1000 ^ k):(qud n).length≤k:=by
 refine Zaj (Nat.lt_of_lt_of_le h (Nat.pow_le_pow_left (by omega) k))
theorem Zll (d:D01) [hr:RdIn As d.gv Nat (cN .u16) d.gs] (hd:d.ok) :
  CQ Tryz.prog w0 81 [.agg d.cells.toArray] As (.string ⟨(textI d.num).toArray⟩):=by
 obtain ⟨below,gv,gs,zeros⟩:=d
 obtain ⟨hg,hgl,hz⟩:=hd
 simp only at hg hgl hz
 replace hr:RdIn As gv Nat (cN .u16) gs:=hr
 have hdg:=D01.digits ⟨below,gv,gs,zeros⟩
 have hna:=D01.natAbs ⟨below,gv,gs,zeros⟩
 refine Zad gv fun pg cg hgv=>?_
 subst hgv
 refine Zab Tryz.func81 rfl Tryz.ntmps81 rfl ?_
 show Tri _ _ _ _ (env0 0 [.agg #[.bool below,.slice pg gs.length cg,.int .u16 (zeros:Int)]]) _ _
 repeat' first|refine Kz ?_|intro _
 refine TL.call rfl rfl rfl (Zaw (n:=0) (by omega) (by omega)) ?_
 rintro _ _ ⟨p,cap,rfl,rfl⟩
 repeat' first|refine Kz ?_|intro _
 rename_i b1 b3
 refine Tri.loop (ι:=Nat × Option Addr × Nat) (fun s=>s.1≤min gs.length 12) (fun s=>min gs.length 12 - s.1)
  (fun s=>[(1,.pointer (some ⟨b1,0,none⟩)),(3,.pointer (some ⟨b3,0,none⟩)),(4,.int .i64 (s.1:Int))])
  (fun s=>.cl b3 [.bool (decide (((groupsD (gs.take s.1):Nat):Int) < 0)),.slice s.2.1 (qud ((groupsD (gs.take s.1):Nat):Int).natAbs).length s.2.2] 115::.ft (rd (cN .i64) (.slice s.2.1 (qud ((groupsD (gs.take s.1):Nat):Int).natAbs).length s.2.2) (qud ((groupsD (gs.take s.1):Nat):Int).natAbs))::.cl b1 [.bool below,.slice pg gs.length cg,.int .u16 (zeros:Int)] 28::As)
  (0,p,cap) (by omega) Zae (by show Ents _ (.cl b3 [.bool (decide ((0:Int) < 0)),.slice p (qud (0:Int).natAbs).length cap] _::.ft (rd (cN .i64) (.slice p (qud (0:Int).natAbs).length cap) (qud (0:Int).natAbs))::_);(exact Zaa)) ?_
 rintro ⟨k,pk,ck⟩ hk
 simp only at hk
 have hlt:=Ze2 gs k
 obtain ⟨m,hm⟩:∃ m:Nat,m=groupsD (gs.take k):=⟨_,rfl⟩
 rw [← hm] at hlt
 have hml:=Znf hlt
 show Tri _ _ _ _ [(1,_),(3,_),(4,.int .i64 (k:Int))] (.cl b3 [.bool (decide (((groupsD (gs.take k):Nat):Int) < 0)),.slice pk (qud ((groupsD (gs.take k):Nat):Int).natAbs).length ck] _::.ft (rd (cN .i64) (.slice pk (qud ((groupsD (gs.take k):Nat):Int).natAbs).length ck) (qud ((groupsD (gs.take k):Nat):Int).natAbs))::_) _
 rw [← hm]
 repeat' first|refine Kz ?_|intro _
 by_cases hgo:k < gs.length∧k < 12
 ·obtain ⟨hgo1,hgo2⟩:=hgo
  obtain ⟨g,hgk⟩:∃ g,gs[k]?=some g:=⟨_,List.getElem?_eq_getElem hgo1⟩
  have hg9:=hg g (List.mem_of_getElem? hgk)
  have hnew:groupsD (gs.take (k+1))=m * 1000+g % 1000:=by rw [List.take_add_one,hgk,Option.toList_some,Zg9,hm]
  have hz9:(((m:Nat):Int) * 1000+(g:Int) % 1000)=((groupsD (gs.take (k+1)):Nat):Int):=by rw [hnew];omega
  have hl1:(qud (1000:Int).natAbs).length≤1:=Zaj (by decide)
  have hl2:(qud ((g:Int) % 1000).natAbs).length≤1:=Zaj (by omega)
  have hl3:(qud ((m:Int) * 1000).natAbs).length≤20:=by
   have:=Zbm m 1000
   have h4:(qud 1000).length≤1:=Zaj (by decide)
   rw [show ((m:Int) * 1000).natAbs=m * 1000 by omega]
   omega
  repeat' first|refine Kz ?_|intro _
  refine Zau (.take 0 (.take 3 (.take 4 (.take 5 (.take 6 (.take 7 (.take 8 (.take 9 (.all [(1,.all [(2,.all [(10,.all [(11,.all [(12,.done)])])])])]))))))))) ?_
  repeat' first|refine Kf ?_|intro _|constructor
  refine T1.call rfl rfl rfl rfl (Zaw (n:=1000) (by omega) (by omega)) ?_
  rintro _ _ ⟨p1,cap1,rfl,rfl⟩
  repeat' first|refine Kf ?_|intro _|constructor
  refine T1.call rfl rfl rfl rfl (Zcb (x:=(m:Int)) (y:=1000) (by simp only [Int.natAbs_natCast];omega) (by omega)) ?_
  rintro _ _ ⟨p2,cap2,rfl,rfl⟩
  repeat' first|refine Kf ?_|intro _|constructor
  refine T1.call rfl rfl rfl rfl (Zaw (n:=(g:Int) % 1000) (by omega) (by omega)) ?_
  rintro _ _ ⟨p3,cap3,rfl,rfl⟩
  repeat' first|refine Kf ?_|intro _|constructor
  refine T1.call rfl rfl rfl rfl (Zez (x:=(m:Int) * 1000) (y:=(g:Int) % 1000) (by omega) (by omega)) ?_
  rintro _ _ ⟨p4,cap4,rfl,rfl⟩
  rw [hz9]
  repeat' first|refine Kf ?_|intro _|constructor
  exact Post.round (k+1,p4,cap4) (by simp only;omega) (by simp only;omega) Zae Zaa
 ·have hk':gs.take k=gs.take 12:=by
   rcases Nat.lt_or_ge k gs.length with h|h
   ·rw [show k=12 by omega]
   ·rw [List.take_of_length_le h,List.take_of_length_le (by omega)]
  have hmt:m=groupsD (gs.take 12):=by rw [hm,hk']
  have hL:(qud (10:Int).natAbs).length≤1:=Zaj (by decide)
  have hpl:(qud ((10:Int) ^ (zeros % 501)).natAbs).length≤502:=by
   have h1:=Zjt 10 (zeros % 501)
   have h2:(qud 10).length≤1:=Zaj (by decide)
   have h3:=Nat.mul_le_mul_right (zeros % 501) h2
   rw [Int.natAbs_pow]
   show (qud (10 ^ (zeros % 501))).length≤502
   omega
  have hzs:(zeros:Int) % 501=((zeros % 501:Nat):Int):=by omega
  have hsz:((m:Nat):Int) * (10:Int) ^ (zeros % 501)=(((⟨below,.slice pg gs.length cg,gs,zeros⟩:D01).size:Nat):Int):=by
   rw [hmt];unfold D01.size;simp [Int.natCast_pow]
  have hml3:(qud (⟨below,.slice pg gs.length cg,gs,zeros⟩:D01).size).length≤600:=by
   obtain ⟨k',hk',hl'⟩:=D01.size_lt ⟨below,.slice pg gs.length cg,gs,zeros⟩
   exact Znd hl' (by omega)
  have hLm:(qud (10:Int).natAbs).length * (zeros % 501)≤1 * 501:=Nat.mul_le_mul hL (by omega)
  have e1:(⟨below,.slice pg gs.length cg,gs,zeros⟩:D01).num.natAbs=valQ (qud (⟨below,.slice pg gs.length cg,gs,zeros⟩:D01).size):=by rw [Zal];exact D01.natAbs _
  have e2:decide ((⟨below,.slice pg gs.length cg,gs,zeros⟩:D01).num < 0)=(below&&decide (valQ (qud (⟨below,.slice pg gs.length cg,gs,zeros⟩:D01).size)≠0)):=by
   rw [Zal]
   unfold D01.num
   cases below
   ·simp
   ·rw [Bool.eq_iff_iff]
    simp only [if_true,Bool.true_and,decide_eq_true_eq]
    omega
  rw [hna] at hdg
  generalize hSZ:(⟨below,.slice pg gs.length cg,gs,zeros⟩:D01).size=SZ at hsz hml3 e1 e2 hdg hna
  rcases (by omega:¬ k < gs.length∨(k < gs.length∧¬ k < 12)) with h8|⟨h8,h9⟩
  all_goals
   repeat' first|refine Kf ?_|intro _|constructor
   refine Zau (.take 0 (.take 2 (.take 3 (.take 4 (.take 5 (.all [(1,.all [(6,.all [(7,.all [(8,.done)])])])])))))) ?_
   repeat' first|refine Kf ?_|intro _|constructor
   refine T1.call rfl rfl rfl rfl (Zaw (n:=10) (by omega) (by omega)) ?_
   rintro _ _ ⟨p1,cap1,rfl,rfl⟩
   rw [hzs]
   repeat' first|refine Kf ?_|intro _|constructor
   refine T1.call rfl rfl rfl rfl (Zey (x:=10) (n:=zeros % 501) (by omega) (by omega) (by omega)) ?_
   rintro _ _ ⟨p2,cap2,rfl,rfl⟩
   repeat' first|refine Kf ?_|intro _|constructor
   refine T1.call rfl rfl rfl rfl (Zcb (x:=(m:Int)) (y:=(10:Int) ^ (zeros % 501)) (by simp only [Int.natAbs_natCast];omega) (by omega)) ?_
   rintro _ _ ⟨p3,cap3,rfl,rfl⟩
   rw [hsz]
   repeat' first|refine Kf ?_|intro _|constructor
   refine TL.call rfl rfl rfl (Zc2 (xs:=qud SZ) (z:=(⟨below,.slice pg gs.length cg,gs,zeros⟩:D01).num) (Zap _) (by omega) e1 e2) ?_
   rintro _ _ ⟨p4,cap4,rfl,rfl⟩
   generalize hNUM:(⟨below,.slice pg gs.length cg,gs,zeros⟩:D01).num=NUM at hdg hna e1 e2 ⊢
   repeat' first|refine Kz ?_|intro _
   refine Kt rfl (Zic (z:=NUM) (by rw [hna];omega)) ?_
   rw [Zgq (by rw [hna];exact hdg)]
   repeat' first|refine Kz ?_|intro _
   exact Kv
end Go.Proofs.YtciadfpomkdlnaaGreatDoor
namespace Go.Sx
open Go
theorem Za9 {s:List UInt8} {z:Int} (h:readW s=some z):textI z=s:=by
 have key:∀ l:List UInt8,(∀ c∈l,isDig c=true)→0 < l.length→(l[0]?=some 48→l.length=1)→Lib.decDigits (numOf l)=l:=fun l hd h0 h1=>by
  by_cases h2:l[0]?=some 48
  ·have h3:=h1 h2
   match l,h3 with
   | [c],_ =>
    simp only [List.getElem?_cons_zero,Option.some.injEq] at h2
    subst h2
    rw [show numOf [48]=0 from rfl,Zbf (by decide)];rfl
  ·exact (Zgf l.length rfl hd (by intro h;rw [h] at h0;cases h0) h2).symm
 unfold readW at h
 by_cases hp:Lib.hasPrefix s [45]=true
 ·rw [if_pos hp] at h
  split at h
  ·rename_i hc
   cases h
   have hpos:=Zdr (l:=s.drop 1) hc.2.2.1 hc.1 hc.2.2.2
   rw [Zbk,if_pos (by omega),Int.natAbs_neg,Int.natAbs_natCast,key _ hc.2.2.1 hc.1 (fun h=>absurd h hc.2.2.2)]
   cases s with
   | nil=>cases hp
   | cons c r =>
    rw [Zaq,decide_eq_true_eq] at hp
    rw [hp];rfl
  ·cases h
 ·rw [if_neg hp] at h
  split at h
  ·rename_i hc
   cases h
   rw [Zbk,if_neg (by omega),Int.natAbs_natCast,key _ hc.2.2.1 hc.1 hc.2.2.2]
  ·cases h
theorem Zib {l:List UInt8} {z:Int} (h:readW l=some z):outW z=(l,0):=by rw [Zgq (Zcq h),Za9 h]
theorem Zhs {s l:List UInt8} {x:Int} {n:Int} (h1:readW s=some x) (h0:¬ (n < 0∨40 < n)) (h3:readW l=some (x ^ n.toNat)):powW s n=(l,0):=by
 unfold powW;rw [h1];simp only [];rw [if_neg h0];exact Zib h3
end Go.Sx
namespace Go.Proofs.YtciadfpomkdlnaaGreatDoor
open Go Go.Sx
variable {w0:World} {As:List Ent}
end Go.Proofs.YtciadfpomkdlnaaGreatDoor
namespace Go.Sx
open Go
theorem Zlz (a b:Nat):(qud (a+b)).length≤max (qud a).length (qud b).length+1:=by
 refine Zaj ?_
 have h1:=Nat.lt_of_lt_of_le (Zaz a) (Nat.pow_le_pow_right (n:=10000) (by omega) (Nat.le_max_left (qud a).length (qud b).length))
 have h2:=Nat.lt_of_lt_of_le (Zaz b) (Nat.pow_le_pow_right (n:=10000) (by omega) (Nat.le_max_right (qud a).length (qud b).length))
 rw [Nat.pow_succ]
 omega
theorem Zne (x y:Int):(qud (x - y).natAbs).length≤max (qud x.natAbs).length (qud y.natAbs).length+1 :=
 Nat.le_trans (Zbq (show (x - y).natAbs≤x.natAbs+y.natAbs by omega)) (Zlz _ _)
end Go.Sx
namespace Go.Proofs.YtciadfpomkdlnaaGreatDoor
open Go Go.Sx
variable {w0:World} {As:List Ent}
theorem Zki {v:Value} {x:Int} [hf:FtIn As v Nat (cN .i64) (qud x.natAbs)] (ha:(qud x.natAbs).length≤100000000) :
  CallsS Tryz.prog w0 154 [.agg #[.bool (decide (x < 0)),v]] As (PlainR As (-x)):=by
 refine Zad v fun pv cv hv=>?_
 subst hv
 have e1:(-x).natAbs=valQ (qud x.natAbs):=by rw [Zal,Int.natAbs_neg]
 have e2:decide (-x < 0)=(!decide (x < 0)&&decide (valQ (qud x.natAbs)≠0)):=by
  rw [Zal,Bool.eq_iff_iff]
  simp only [Bool.and_eq_true,Bool.not_eq_true',decide_eq_false_iff_not,decide_eq_true_eq]
  omega
 refine Zab Tryz.func154 rfl Tryz.ntmps154 rfl ?_
 repeat' first|refine Kz ?_|intro _
 refine TL.call rfl rfl rfl (Zc2 (xs:=qud x.natAbs) (z:=-x) (Zap _) (by omega) e1 e2) ?_
 rintro _ _ ⟨p,cap,rfl,rfl⟩
 repeat' first|refine Kz ?_|intro _
 (refine Zac ?_)
 exact ⟨_,⟨p,cap,rfl,rfl⟩,Zaa⟩
theorem Zsk {v o:Value} {x y:Int} [hf:RdIn As v Nat (cN .i64) (qud x.natAbs)] [hg:FtIn As o Nat (cN .i64) (qud y.natAbs)] (ha:(qud x.natAbs).length≤10000000) (hb:(qud y.natAbs).length≤10000000) :
  CallsS Tryz.prog w0 157 [.agg #[.bool (decide (x < 0)),v],.agg #[.bool (decide (y < 0)),o]] As (PlainR As (x - y)):=by
 refine Zad v fun pv cv hv=>Zad o fun po co ho=>?_
 subst hv ho
 refine Zab Tryz.func157 rfl Tryz.ntmps157 rfl ?_
 repeat' first|refine Kz ?_|intro _
 refine Zau (.take 0 (.take 1 (.all [(2,.all [(3,.all [(4,.done)])])]))) ?_
 repeat' first|refine Kf ?_|intro _|constructor
 refine T1.call rfl rfl rfl rfl (Zki (x:=y) (by omega)) ?_
 rintro _ _ ⟨p,cap,rfl,rfl⟩
 repeat' first|refine Kf ?_|intro _|constructor
 refine T1.call rfl rfl rfl rfl (Zez (x:=x) (y:=-y) (by omega) (by rw [Int.natAbs_neg];omega)) ?_
 rintro _ _ ⟨p',cap',rfl,rfl⟩
 rw [← Int.sub_eq_add_neg]
 repeat' first|refine Kf ?_|intro _|constructor
 (refine Zac ?_)
 exact ⟨_,⟨p',cap',rfl,rfl⟩,Zaa⟩
end Go.Proofs.YtciadfpomkdlnaaGreatDoor
namespace Go.Proofs.YtciadfpomkdlnaaGreatDoor
open Go Go.Sx
variable {w0:World} {As:List Ent}
end Go.Proofs.YtciadfpomkdlnaaGreatDoor
