/- Walks: sums of magnitudes. -/
import Derived.Test.YtkcnpgmgmgepoaaGreatDoorWa5
import Derived.Test.YtkcnpgmgmgepoaaGreatDoorCa1
namespace Go.Proofs.YtkcnpgmgmgepoaaGreatDoor.Q
open Go Go.Sx
variable {w0:World} {As:List Ent}
theorem plus_ok {v o:Value} {a b:Nat} [hf:RdIn As v Nat (cN .u32) (mag a)] [hg:RdIn As o Nat (cN .u32) (mag b)] (ha:(mag a).length≤100000000) (hb:(mag b).length≤100000000):CallsS Tryz.prog w0 296 [v,o] As (MagR As (a+b)):=by
 refine magR_of ?_
 refine CallsS.of_tri Tryz.func296 rfl Tryz.ntmps296 rfl ?_
 (repeat' first|(refine Ka ?_;first|refine Kb ?_|(refine Kc ?_;intro _))|refine Kd ?_|refine Kh ?_)
 refine Tri.mid (fun e' As'=>∃ v' o' a' b',RdIn As v' Nat (cN .u32) (mag a')∧RdIn As o' Nat (cN .u32) (mag b')∧(mag b').length≤(mag a').length∧(mag a').length≤100000000∧a+b=a'+b'∧e'=[(0,v'),(1,o')]∧As'=As) ?_ ?_
 ·((show Tri _ _ _ (.cond _ _ _) _ _ _;first|refine Tri.condP rfl (fun hc=>?_) (fun hc=>?_)|refine Tri.condN rfl (fun hc=>?_) (fun hc=>?_)))
  ·(repeat' first|(refine Ka ?_;first|refine Kb ?_|(refine Kc ?_;intro _))|refine Kd ?_|refine Kh ?_)
   exact Post.cut _ _ ⟨o,v,b,a,hg,hf,by omega,hb,by omega,rfl,rfl⟩ (by (exact Sub.au)) (by (exact Ents.au))
  ·(repeat' first|(refine Ka ?_;first|refine Kb ?_|(refine Kc ?_;intro _))|refine Kd ?_|refine Kh ?_)
   exact Post.cut _ _ ⟨v,o,a,b,hf,hg,by omega,ha,rfl,rfl,rfl⟩ (by (exact Sub.au)) (by (exact Ents.au))
 ·rintro _ As ⟨v',o',a',b',hf',hg',hlen,hla,hab,rfl,rfl⟩
  rw [hab]
  have hsa:=mag_small a'
  have hsb:=mag_small b'
  (repeat' first|(refine Ka ?_;first|refine Kb ?_|(refine Kc ?_;intro _))|refine Kd ?_|refine Kh ?_)
  rename_i sv
  refine Tri.loop (ι:=Nat × Value × List Nat × Nat) (fun s=>s.1≤(mag a').length∧s.2.2.1.length=s.1∧(∀ x∈s.2.2.1,x < 1000000000)∧s.2.2.2≤1∧valB s.2.2.1+1000000000 ^ s.1 * s.2.2.2=valB ((mag a').take s.1)+valB ((mag b').take s.1)) (fun s=>(mag a').length - s.1)
   (fun s=>[(1,o'),(5,s.2.1),(6,.int .u32 (s.2.2.2:Int)),(20,v'),(21,.int .i64 (mag a').length),(22,.int .i64 (s.1:Int))]) (fun s=>.ow (cN .u32) 95 s.2.1 s.2.2.1::As)
   (0,sv,[],0) ⟨by omega,rfl,(fun _ h=>by cases h),Nat.zero_le 1,by simp [valB]⟩ (by (exact Sub.au)) (by simp only [List.replicate_zero];(exact Ents.au)) ?_
  rintro ⟨i,sv,xs,c⟩ ⟨hi,hxl,hxs,hc1,hval⟩
  simp only at hi hxl hxs hc1 hval
  show Tri _ _ _ _ [(1,o'),(5,sv),(6,.int .u32 (c:Int)),(20,v'),(21,_),(22,.int .i64 (i:Int))] (.ow (cN .u32) 95 sv xs::As) _
  (repeat' first|(refine Ka ?_;first|refine Kb ?_|(refine Kc ?_;intro _))|refine Kd ?_|refine Kh ?_)
  ((show Tri _ _ _ (.cond _ _ _) _ _ _;first|refine Tri.condP rfl (fun hc=>?_) (fun hc=>?_)|refine Tri.condN rfl (fun hc=>?_) (fun hc=>?_)))
  ·obtain ⟨d,hd⟩:∃ d,(mag a')[i]?=some d:=⟨_,List.getElem?_eq_getElem (by omega)⟩
   have hd9:=hsa d (List.mem_of_getElem? hd)
   have hta:=valB_take hd
   obtain ⟨ee,he9,htb,heb⟩:∃ ee,ee < 1000000000∧valB ((mag b').take (i+1))=valB ((mag b').take i)+1000000000 ^ i * ee∧((i < (mag b').length∧(mag b')[i]?=some ee)∨(¬ i < (mag b').length∧ee=0)):=by
        by_cases h:i < (mag b').length
        ·have h1:(mag b')[i]?=some (mag b')[i]:=List.getElem?_eq_getElem h
         exact ⟨_,hsb _ (List.mem_of_getElem? h1),valB_take h1,.inl ⟨h,h1⟩⟩
        ·exact ⟨0,by omega,by rw [valB_take_ge (by omega),valB_take_ge (by omega)];omega,.inr ⟨h,rfl⟩⟩
   (repeat' first|(refine Ka ?_;first|refine Kb ?_|(refine Kc ?_;intro _))|refine Kd ?_|refine Kh ?_)
   refine Tri.mid (fun e' As'=>e'=[(1,o'),(5,sv),(8,.int .u32 ((d:Int)+c+ee)),(20,v'),(21,.int .i64 (mag a').length),(22,.int .i64 (i:Int))]∧As'=.ow (cN .u32) 95 sv xs::As) ?_ ?_
   ·rcases heb with ⟨h1,h2⟩|⟨h1,rfl⟩
    ·(repeat' first|(refine Ka ?_;first|refine Kb ?_|(refine Kc ?_;intro _))|refine Kd ?_|refine Kh ?_)
     exact Post.cut _ _ ⟨rfl,rfl⟩ (by (exact Sub.au)) (by (exact Ents.au))
    ·(repeat' first|(refine Ka ?_;first|refine Kb ?_|(refine Kc ?_;intro _))|refine Kd ?_|refine Kh ?_)
     refine Post.cut _ _ ⟨rfl,rfl⟩ ?_ (by (exact Ents.au))
     rw [show ((d:Int)+c+((0:Nat):Int))=(d:Int)+c by omega]
     (exact Sub.au)
   ·rintro _ _ ⟨rfl,hB⟩
    subst hB
    (repeat' first|(refine Ka ?_;first|refine Kb ?_|(refine Kc ?_;intro _))|refine Kd ?_|refine Kh ?_)
    ((show Tri _ _ _ (.cond _ _ _) _ _ _;first|refine Tri.condP rfl (fun hc=>?_) (fun hc=>?_)|refine Tri.condN rfl (fun hc=>?_) (fun hc=>?_)))
    ·have e9:((d:Int)+c+ee - 1000000000)=((d+c+ee - 1000000000:Nat):Int):=by omega
     (repeat' first|(refine Ka ?_;first|refine Kb ?_|(refine Kc ?_;intro _))|refine Kd ?_|refine Kh ?_)
     rw [e9]
     (repeat' first|(refine Ka ?_;first|refine Kb ?_|(refine Kc ?_;intro _))|refine Kd ?_|refine Kh ?_)
     rename_i b9 sv2
     refine Post.round (i+1,sv2,xs++[d+c+ee - 1000000000],1) ⟨by simp only;omega,by simp;omega,small_snoc hxs (by omega),Nat.le_refl 1,?_⟩ (by simp only;omega) (by (exact Sub.au)) (by (exact Ents.au))
     simp only
     rw [valB_snoc,hxl,hta,htb,Nat.pow_succ]
     exact plus_step hval (by omega)
    ·have e9:((d:Int)+c+ee)=((d+c+ee:Nat):Int):=by omega
     rw [e9]
     (repeat' first|(refine Ka ?_;first|refine Kb ?_|(refine Kc ?_;intro _))|refine Kd ?_|refine Kh ?_)
     rename_i b9 sv2
     refine Post.round (i+1,sv2,xs++[d+c+ee],0) ⟨by simp only;omega,by simp;omega,small_snoc hxs (by omega),Nat.zero_le 1,?_⟩ (by simp only;omega) (by (exact Sub.au)) (by (exact Ents.au))
     simp only
     rw [valB_snoc,hxl,hta,htb,Nat.pow_succ]
     exact plus_step hval (by omega)
  ·have hie:i=(mag a').length:=by omega
   rw [valB_take_ge (by omega),valB_take_ge (by omega),valB_mag,valB_mag] at hval
   have hxl2:xs.length≤100000000:=by omega
   (repeat' first|(refine Ka ?_;first|refine Kb ?_|(refine Kc ?_;intro _))|refine Kd ?_|refine Kh ?_)
   ((show Tri _ _ _ (.cond _ _ _) _ _ _;first|refine Tri.condP rfl (fun hc=>?_) (fun hc=>?_)|refine Tri.condN rfl (fun hc=>?_) (fun hc=>?_)))
   ·have hc0:c=1:=by omega
    subst hc0
    have h1:=sum_end1 (a:=a') (b:=b') hxs (by omega) (by rw [hxl];omega)
    (repeat' first|(refine Ka ?_;first|refine Kb ?_|(refine Kc ?_;intro _))|refine Kd ?_|refine Kh ?_)
    rename_i b9 sv2
    (refine Post.ra ?_)
    refine ⟨_,rfl,?_⟩
    rw [← h1]
    exact Ents.trans Ents.freeze (by (exact Ents.au))
   ·have hc0:c=0:=by omega
    subst hc0
    have h1:=sum_end0 (a:=a') (b:=b') hxs (by omega) (by omega) hlen
    (repeat' first|(refine Ka ?_;first|refine Kb ?_|(refine Kc ?_;intro _))|refine Kd ?_|refine Kh ?_)
    (refine Post.ra ?_)
    refine ⟨_,rfl,?_⟩
    rw [← h1]
    exact Ents.trans Ents.freeze (by (exact Ents.au))
theorem compare_ok {v o:Value} {a b:Nat} [hf:RdIn As v Nat (cN .u32) (mag a)] [hg:RdIn As o Nat (cN .u32) (mag b)] (ha:(mag a).length≤100000000) (hb:(mag b).length≤100000000):CallsS Tryz.prog w0 227 [v,o] As fun u Bs=>u=.int .i64 (Lib.compareInt a b)∧Bs=As:=by
 refine CallsS.of_tri Tryz.func227 rfl Tryz.ntmps227 rfl ?_
 have hlt:∀ {a b:Nat},a < b→Lib.compareInt a b=-1:=fun h=>by rw [Lib.compareInt,if_pos (by omega)]
 have hgt:∀ {a b:Nat},b < a→Lib.compareInt a b=1:=fun h=>by rw [Lib.compareInt,if_neg (by omega),if_pos (by omega)]
 (repeat' first|(refine Ka ?_;first|refine Kb ?_|(refine Kc ?_;intro _))|refine Kd ?_|refine Kh ?_)
 ((show Tri _ _ _ (.cond _ _ _) _ _ _;first|refine Tri.condP rfl (fun hc=>?_) (fun hc=>?_)|refine Tri.condN rfl (fun hc=>?_) (fun hc=>?_)))
 ·(repeat' first|(refine Ka ?_;first|refine Kb ?_|(refine Kc ?_;intro _))|refine Kd ?_|refine Kh ?_)
  refine TL.call rfl rfl rfl compareInt_ok ?_
  rintro _ As ⟨rfl,rfl⟩
  (repeat' first|(refine Ka ?_;first|refine Kb ?_|(refine Kc ?_;intro _))|refine Kd ?_|refine Kh ?_)
  (refine Post.ra ?_)
  refine ⟨_,⟨?_,rfl⟩,by (exact Ents.au)⟩
  rcases Nat.lt_or_gt_of_ne (show (mag a).length≠(mag b).length by omega) with h|h
  ·rw [hlt h,hlt (cmp_len h)]
  ·rw [hgt h,hgt (cmp_len h)]
 ·have hlen:(mag b).length=(mag a).length:=by omega
  have hdiv:∀ {n:Nat},(mag n).length=(mag a).length→n / 1000000000 ^ (mag a).length=0:=fun h=>by rw [← h];exact Nat.div_eq_of_lt (mag_lt_pow _)
  (repeat' first|(refine Ka ?_;first|refine Kb ?_|(refine Kc ?_;intro _))|refine Kd ?_|refine Kh ?_)
  refine Tri.loop (ι:=Nat) (fun j=>j≤(mag a).length∧a / 1000000000 ^ j=b / 1000000000 ^ j) (fun j=>j)
   (fun j=>[(0,v),(1,o),(5,.int .i64 ((j:Int) - 1))]) (fun _=>As) (mag a).length ⟨Nat.le_refl _,by rw [hdiv rfl,hdiv hlen]⟩ (by (exact Sub.au)) (by (exact Ents.au)) ?_
  intro j ⟨hj,hq⟩
  cases j with
  | zero =>
   rw [show ((0:Nat):Int) - 1=-1 from rfl]
   (repeat' first|(refine Ka ?_;first|refine Kb ?_|(refine Kc ?_;intro _))|refine Kd ?_|refine Kh ?_)
   (refine Post.ra ?_)
   have:a=b:=by simpa using hq
   subst this
   exact ⟨_,⟨by rw [Lib.compareInt,if_neg (by omega),if_neg (by omega)],rfl⟩,by (exact Ents.au)⟩
  | succ j =>
   rw [show ((j+1:Nat):Int) - 1=(j:Int) by omega]
   obtain ⟨d,hd⟩:∃ d,(mag a)[j]?=some d:=⟨_,List.getElem?_eq_getElem (by omega)⟩
   obtain ⟨ee,he⟩:∃ d,(mag b)[j]?=some d:=⟨_,List.getElem?_eq_getElem (by omega)⟩
   obtain ⟨k1,_,_⟩:=mag_get hd
   obtain ⟨l1,_,_⟩:=mag_get he
   (repeat' first|(refine Ka ?_;first|refine Kb ?_|(refine Kc ?_;intro _))|refine Kd ?_|refine Kh ?_)
   refine Tri.dr (.take 0 (.take 1 (.take 2 (.take 3 (.take 4 (.take 5 (.take 6 (.take 7 (.take 8 (.done)))))))))) ?_
   (repeat' first|(refine Ka ?_;first|refine Kb ?_|(refine Kc ?_;intro _))|refine Kd ?_|(refine Ki ?_;refine Kj ?_)|exact Kk|refine Kl ?_ ?_|(refine Km ?_;first|refine Kn ?_|(refine Ko ?_;intro _))|(refine Kp ?_;first|refine Kq ?_|refine Kr ?_)|refine Kh ?_)
   ((show Tri _ _ _ (.cond _ _ _) _ _ _;first|refine Tri.condP rfl (fun hc=>?_) (fun hc=>?_)|refine Tri.condN rfl (fun hc=>?_) (fun hc=>?_)))
   ·(repeat' first|(refine Ka ?_;first|refine Kb ?_|(refine Kc ?_;intro _))|refine Kd ?_|(refine Ki ?_;refine Kj ?_)|exact Kk|refine Kl ?_ ?_|(refine Km ?_;first|refine Kn ?_|(refine Ko ?_;intro _))|(refine Kp ?_;first|refine Kq ?_|refine Kr ?_)|refine Kh ?_)
    refine Tri.dr (.take 0 (.take 1 (.take 2 (.take 3 (.take 4 (.take 5 (.take 6 (.take 7 (.all [(8,.take 9 (.done))]))))))))) ?_
    (repeat' first|(refine Ka ?_;first|refine Kb ?_|(refine Kc ?_;intro _))|refine Kd ?_|(refine Ki ?_;refine Kj ?_)|exact Kk|refine Kl ?_ ?_|(refine Km ?_;first|refine Kn ?_|(refine Ko ?_;intro _))|(refine Kp ?_;first|refine Kq ?_|refine Kr ?_)|refine Kh ?_)
    refine T1.call rfl rfl rfl rfl compareU_ok ?_
    rintro _ As ⟨rfl,rfl⟩
    (repeat' first|(refine Ka ?_;first|refine Kb ?_|(refine Kc ?_;intro _))|refine Kd ?_|(refine Ki ?_;refine Kj ?_)|exact Kk|refine Kl ?_ ?_|(refine Km ?_;first|refine Kn ?_|(refine Ko ?_;intro _))|(refine Kp ?_;first|refine Kq ?_|refine Kr ?_)|refine Kh ?_)
    (refine Post.ra ?_)
    refine ⟨_,⟨?_,rfl⟩,by (exact Ents.au)⟩
    rcases Nat.lt_or_gt_of_ne (show d≠ee by omega) with h|h
    ·rw [hlt h,hlt (cmp_group hq k1 l1 h)]
    ·rw [hgt h,hgt (cmp_group hq.symm l1 k1 h)]
   ·(repeat' first|(refine Ka ?_;first|refine Kb ?_|(refine Kc ?_;intro _))|refine Kd ?_|(refine Ki ?_;refine Kj ?_)|exact Kk|refine Kl ?_ ?_|(refine Km ?_;first|refine Kn ?_|(refine Ko ?_;intro _))|(refine Kp ?_;first|refine Kq ?_|refine Kr ?_)|refine Kh ?_)
    refine Post.round j ⟨by omega,?_⟩ (by omega) (by (exact Sub.au)) (by (exact Ents.au))
    have:d=ee:=by omega
    rw [k1,l1,hq,this]
end Go.Proofs.YtkcnpgmgmgepoaaGreatDoor.Q
namespace Go.Proofs.YtkcnpgmgmgepoaaGreatDoor.Q
open Go Go.Sx
variable {w0:World} {As:List Ent}
theorem minus_ok {v o:Value} {a b:Nat} [hf:RdIn As v Nat (cN .u32) (mag a)] [hg:RdIn As o Nat (cN .u32) (mag b)] (hab:b≤a) (ha:(mag a).length≤100000000):CallsS Tryz.prog w0 344 [v,o] As (MagR As (a - b)):=by
 have hlb:=mag_len_le hab
 have hsa:=mag_small a
 have hsb:=mag_small b
 have hrl:(List.replicate (mag a).length 0).length=(mag a).length:=List.length_replicate
 refine CallsS.of_tri Tryz.func344 rfl Tryz.ntmps344 rfl ?_
 (repeat' first|(refine Ka ?_;first|refine Kb ?_|(refine Kc ?_;intro _))|refine Kd ?_|refine Kh ?_)
 rename_i sv
 refine Tri.loop (ι:=Nat × List Nat × Nat) (fun s=>s.1≤(mag a).length∧s.2.1.length=(mag a).length∧(∀ x∈s.2.1,x < 1000000000)∧s.2.2≤1∧valB (s.2.1.take s.1)+valB ((mag b).take s.1)=valB ((mag a).take s.1)+1000000000 ^ s.1 * s.2.2) (fun s=>(mag a).length - s.1)
  (fun s=>[(1,o),(5,sv),(6,.int .u32 (s.2.2:Int)),(13,v),(14,.int .i64 (mag a).length),(15,.int .i64 (s.1:Int))]) (fun s=>.ow (cN .u32) 95 sv s.2.1::As)
  (0,List.replicate (mag a).length 0,0) ⟨by omega,hrl,(fun x h=>by rw [List.eq_of_mem_replicate h];decide),Nat.zero_le 1,by simp [valB]⟩ (by (exact Sub.au)) (by (exact Ents.au)) ?_
 rintro ⟨i,xs,c⟩ ⟨hi,hxl,hxs,hc1,hval⟩
 simp only at hi hxl hxs hc1 hval
 show Tri _ _ _ _ [(1,o),(5,sv),(6,.int .u32 (c:Int)),(13,v),(14,_),(15,.int .i64 (i:Int))] (.ow (cN .u32) 95 sv xs::As) _
 (repeat' first|(refine Ka ?_;first|refine Kb ?_|(refine Kc ?_;intro _))|refine Kd ?_|refine Kh ?_)
 ((show Tri _ _ _ (.cond _ _ _) _ _ _;first|refine Tri.condP rfl (fun hc=>?_) (fun hc=>?_)|refine Tri.condN rfl (fun hc=>?_) (fun hc=>?_)))
 ·obtain ⟨d,hd⟩:∃ d,(mag a)[i]?=some d:=⟨_,List.getElem?_eq_getElem (by omega)⟩
  have hd9:=hsa d (List.mem_of_getElem? hd)
  have hta:=valB_take hd
  obtain ⟨ee,he9,htb,heb⟩:∃ ee,ee < 1000000000∧valB ((mag b).take (i+1))=valB ((mag b).take i)+1000000000 ^ i * ee∧((i < (mag b).length∧(mag b)[i]?=some ee)∨(¬ i < (mag b).length∧ee=0)):=by
   by_cases h:i < (mag b).length
   ·have h1:(mag b)[i]?=some (mag b)[i]:=List.getElem?_eq_getElem h
    exact ⟨_,hsb _ (List.mem_of_getElem? h1),valB_take h1,.inl ⟨h,h1⟩⟩
   ·exact ⟨0,by omega,by rw [valB_take_ge (by omega),valB_take_ge (by omega)];omega,.inr ⟨h,rfl⟩⟩
  have hset:∀ g c',g < 1000000000→c'≤1→g+c+ee=d+1000000000 * c'→∀ {Q:Exit→Act→World→Prop} {e:Env},Sub e [(1,o),(5,sv),(6,.int .u32 (c':Int)),(13,v),(14,.int .i64 (mag a).length),(15,.int .i64 ((i+1:Nat):Int))] →
        valB ((xs.set i g).take (i+1))+valB ((mag b).take (i+1))=valB ((mag a).take (i+1))+1000000000 ^ (i+1) * c':=fun g c' hg9 hc9 hgc Q e _=>by
   have h1:(xs.set i g)[i]?=some g:=by rw [List.getElem?_set,if_pos rfl,if_pos (by omega)]
   rw [valB_take h1,List.take_set_of_le (Nat.le_refl i),hta,htb,Nat.pow_succ]
   exact minus_step hval hgc
  (repeat' first|(refine Ka ?_;first|refine Kb ?_|(refine Kc ?_;intro _))|refine Kd ?_|refine Kh ?_)
  refine Tri.mid (fun e' As'=>e'=[(1,o),(5,sv),(7,.int .i64 (i:Int)),(8,.int .u32 (d:Int)),(9,.int .u32 ((c:Int)+ee)),(13,v),(14,.int .i64 (mag a).length),(15,.int .i64 (i:Int))]∧As'=.ow (cN .u32) 95 sv xs::As) ?_ ?_
  ·rcases heb with ⟨h1,h2⟩|⟨h1,rfl⟩
   ·(repeat' first|(refine Ka ?_;first|refine Kb ?_|(refine Kc ?_;intro _))|refine Kd ?_|refine Kh ?_)
    exact Post.cut _ _ ⟨rfl,rfl⟩ (by (exact Sub.au)) (by (exact Ents.au))
   ·(repeat' first|(refine Ka ?_;first|refine Kb ?_|(refine Kc ?_;intro _))|refine Kd ?_|refine Kh ?_)
    refine Post.cut _ _ ⟨rfl,rfl⟩ ?_ (by (exact Ents.au))
    rw [show ((c:Int)+((0:Nat):Int))=(c:Int) by omega]
    (exact Sub.au)
  ·rintro _ _ ⟨rfl,hB⟩
   subst hB
   (repeat' first|(refine Ka ?_;first|refine Kb ?_|(refine Kc ?_;intro _))|refine Kd ?_|refine Kh ?_)
   ((show Tri _ _ _ (.cond _ _ _) _ _ _;first|refine Tri.condP rfl (fun hc=>?_) (fun hc=>?_)|refine Tri.condN rfl (fun hc=>?_) (fun hc=>?_)))
   ·have e9:((d:Int)+1000000000 - ((c:Int)+ee))=((d+1000000000 - (c+ee):Nat):Int):=by omega
    (repeat' first|(refine Ka ?_;first|refine Kb ?_|(refine Kc ?_;intro _))|refine Kd ?_|refine Kh ?_)
    rw [e9]
    (repeat' first|(refine Ka ?_;first|refine Kb ?_|(refine Kc ?_;intro _))|refine Kd ?_|refine Kh ?_)
    refine Post.round (i+1,xs.set i (d+1000000000 - (c+ee)),1) ⟨by simp only;omega,by simp;omega,small_set hxs (by omega),Nat.le_refl 1,hset _ 1 (by omega) (by omega) (by omega) (Q:=fun _ _ _=>True) (e:=[(1,o),(5,sv),(6,.int .u32 ((1:Nat):Int)),(13,v),(14,.int .i64 (mag a).length),(15,.int .i64 ((i+1:Nat):Int))]) (by (exact Sub.au))⟩ (by simp only;omega) (by (exact Sub.au)) (by (exact Ents.au))
   ·have e9:((d:Int) - ((c:Int)+ee))=((d - (c+ee):Nat):Int):=by omega
    (repeat' first|(refine Ka ?_;first|refine Kb ?_|(refine Kc ?_;intro _))|refine Kd ?_|refine Kh ?_)
    rw [e9]
    (repeat' first|(refine Ka ?_;first|refine Kb ?_|(refine Kc ?_;intro _))|refine Kd ?_|refine Kh ?_)
    refine Post.round (i+1,xs.set i (d - (c+ee)),0) ⟨by simp only;omega,by simp;omega,small_set hxs (by omega),Nat.zero_le 1,hset _ 0 (by omega) (by omega) (by omega) (Q:=fun _ _ _=>True) (e:=[(1,o),(5,sv),(6,.int .u32 ((0:Nat):Int)),(13,v),(14,.int .i64 (mag a).length),(15,.int .i64 ((i+1:Nat):Int))]) (by (exact Sub.au))⟩ (by simp only;omega) (by (exact Sub.au)) (by (exact Ents.au))
 ·have hie:i=(mag a).length:=by omega
  rw [valB_take_ge (by omega),valB_take_ge (by omega),valB_take_ge (by omega),valB_mag,valB_mag] at hval
  have hX:=valB_lt hxs
  rw [hxl,← hie] at hX
  have hc0:c=0:=by
   rcases Nat.lt_or_ge 0 c with h|h
   ·have:c=1:=by omega
    subst this
    omega
   ·omega
  subst hc0
  have hv:valB xs=a - b:=by omega
  (repeat' first|(refine Ka ?_;first|refine Kb ?_|(refine Kc ?_;intro _))|refine Kd ?_|refine Kh ?_)
  refine TL.ents Ents.freeze ?_
  refine TL.call rfl rfl rfl (trim_ok hxs (by omega)) ?_
  rintro _ _ ⟨p,cap,rfl,rfl⟩
  rw [hv]
  (repeat' first|(refine Ka ?_;first|refine Kb ?_|(refine Kc ?_;intro _))|refine Kd ?_|refine Kh ?_)
  (refine Post.ra ?_)
  exact ⟨_,⟨p,cap,rfl,rfl⟩,by (exact Ents.au)⟩
end Go.Proofs.YtkcnpgmgmgepoaaGreatDoor.Q
