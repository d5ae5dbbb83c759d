/- Walks: sums of magnitudes. -/
import Derived.Test.YtkcnpgmgmgepoaaGreatDoorWa3
import Derived.Test.YtkcnpgmgmgepoaaGreatDoorPl
namespace Go.Proofs.YtkcnpgmgmgepoaaGreatDoor
open Go Go.Sx
variable {w0:World} {As:List Ent}
theorem plus_ok {v o:Value} {a b:Nat} [hf:RdIn As v Nat (cN .u32) (mag a)] [hg:RdIn As o Nat (cN .u32) (mag b)] (ha:(mag a).length≤100000000) (hb:(mag b).length≤100000000):CallsS Tryz.prog w0 330 [v,o] As (MagR As (a+b)):=by
 refine magR_of ?_
 refine CallsS.of_tri Tryz.func330 rfl Tryz.ntmps330 rfl ?_
 (repeat' first|(refine Ka ?_;first|refine Kb ?_|(refine Kc ?_;intro _))|refine Kd ?_|refine Kh ?_)
 refine Tri.mid (fun e' As'=>∃ v' o' a' b',RdIn As v' Nat (cN .u32) (mag a')∧RdIn As o' Nat (cN .u32) (mag b')∧(mag b').length≤(mag a').length∧(mag a').length≤100000000∧a+b=a'+b'∧e'=[(0,v'),(1,o')]∧As'=As) ?_ ?_
 ·((show Tri _ _ _ (.cond _ _ _) _ _ _;first|refine Tri.condP rfl (fun hc=>?_) (fun hc=>?_)|refine Tri.condN rfl (fun hc=>?_) (fun hc=>?_)))
  ·(repeat' first|(refine Ka ?_;first|refine Kb ?_|(refine Kc ?_;intro _))|refine Kd ?_|refine Kh ?_)
   exact Post.cut _ _ ⟨o,v,b,a,hg,hf,by omega,hb,by omega,rfl,rfl⟩ (by (exact Sub.au)) (by (exact Ents.au))
  ·(repeat' first|(refine Ka ?_;first|refine Kb ?_|(refine Kc ?_;intro _))|refine Kd ?_|refine Kh ?_)
   exact Post.cut _ _ ⟨v,o,a,b,hf,hg,by omega,ha,rfl,rfl,rfl⟩ (by (exact Sub.au)) (by (exact Ents.au))
 ·rintro _ As ⟨v',o',a',b',hf',hg',hlen,hla,hab,rfl,rfl⟩
  rw [hab]
  have hsa:=mag_small a'
  have hsb:=mag_small b'
  (repeat' first|(refine Ka ?_;first|refine Kb ?_|(refine Kc ?_;intro _))|refine Kd ?_|refine Kh ?_)
  rename_i sv
  refine Tri.loop (ι:=Nat × Value × List Nat × Nat) (fun s=>s.1≤(mag a').length∧s.2.2.1.length=s.1∧(∀ x∈s.2.2.1,x < 1000000000)∧s.2.2.2≤1∧valB s.2.2.1+1000000000 ^ s.1 * s.2.2.2=valB ((mag a').take s.1)+valB ((mag b').take s.1)) (fun s=>(mag a').length - s.1)
   (fun s=>[(1,o'),(5,s.2.1),(6,.int .u32 (s.2.2.2:Int)),(20,v'),(21,.int .i64 (mag a').length),(22,.int .i64 (s.1:Int))]) (fun s=>.ow (cN .u32) 95 s.2.1 s.2.2.1::As)
   (0,sv,[],0) ⟨by omega,rfl,(fun _ h=>by cases h),Nat.zero_le 1,by simp [valB]⟩ (by (exact Sub.au)) (by simp only [List.replicate_zero];(exact Ents.au)) ?_
  rintro ⟨i,sv,xs,c⟩ ⟨hi,hxl,hxs,hc1,hval⟩
  simp only at hi hxl hxs hc1 hval
  show Tri _ _ _ _ [(1,o'),(5,sv),(6,.int .u32 (c:Int)),(20,v'),(21,_),(22,.int .i64 (i:Int))] (.ow (cN .u32) 95 sv xs::As) _
  (repeat' first|(refine Ka ?_;first|refine Kb ?_|(refine Kc ?_;intro _))|refine Kd ?_|refine Kh ?_)
  ((show Tri _ _ _ (.cond _ _ _) _ _ _;first|refine Tri.condP rfl (fun hc=>?_) (fun hc=>?_)|refine Tri.condN rfl (fun hc=>?_) (fun hc=>?_)))
  ·obtain ⟨d,hd⟩:∃ d,(mag a')[i]?=some d:=⟨_,List.getElem?_eq_getElem (by omega)⟩
   have hd9:=hsa d (List.mem_of_getElem? hd)
   have hta:=valB_take hd
   obtain ⟨ee,he9,htb,heb⟩:∃ ee,ee < 1000000000∧valB ((mag b').take (i+1))=valB ((mag b').take i)+1000000000 ^ i * ee∧((i < (mag b').length∧(mag b')[i]?=some ee)∨(¬ i < (mag b').length∧ee=0)):=by
        by_cases h:i < (mag b').length
        ·have h1:(mag b')[i]?=some (mag b')[i]:=List.getElem?_eq_getElem h
         exact ⟨_,hsb _ (List.mem_of_getElem? h1),valB_take h1,.inl ⟨h,h1⟩⟩
        ·exact ⟨0,by omega,by rw [valB_take_ge (by omega),valB_take_ge (by omega)];omega,.inr ⟨h,rfl⟩⟩
   (repeat' first|(refine Ka ?_;first|refine Kb ?_|(refine Kc ?_;intro _))|refine Kd ?_|refine Kh ?_)
   refine Tri.mid (fun e' As'=>e'=[(1,o'),(5,sv),(8,.int .u32 ((d:Int)+c+ee)),(20,v'),(21,.int .i64 (mag a').length),(22,.int .i64 (i:Int))]∧As'=.ow (cN .u32) 95 sv xs::As) ?_ ?_
   ·rcases heb with ⟨h1,h2⟩|⟨h1,rfl⟩
    ·(repeat' first|(refine Ka ?_;first|refine Kb ?_|(refine Kc ?_;intro _))|refine Kd ?_|refine Kh ?_)
     exact Post.cut _ _ ⟨rfl,rfl⟩ (by (exact Sub.au)) (by (exact Ents.au))
    ·(repeat' first|(refine Ka ?_;first|refine Kb ?_|(refine Kc ?_;intro _))|refine Kd ?_|refine Kh ?_)
     refine Post.cut _ _ ⟨rfl,rfl⟩ ?_ (by (exact Ents.au))
     rw [show ((d:Int)+c+((0:Nat):Int))=(d:Int)+c by omega]
     (exact Sub.au)
   ·rintro _ _ ⟨rfl,hB⟩
    subst hB
    (repeat' first|(refine Ka ?_;first|refine Kb ?_|(refine Kc ?_;intro _))|refine Kd ?_|refine Kh ?_)
    ((show Tri _ _ _ (.cond _ _ _) _ _ _;first|refine Tri.condP rfl (fun hc=>?_) (fun hc=>?_)|refine Tri.condN rfl (fun hc=>?_) (fun hc=>?_)))
    ·have e9:((d:Int)+c+ee - 1000000000)=((d+c+ee - 1000000000:Nat):Int):=by omega
     (repeat' first|(refine Ka ?_;first|refine Kb ?_|(refine Kc ?_;intro _))|refine Kd ?_|refine Kh ?_)
     rw [e9]
     (repeat' first|(refine Ka ?_;first|refine Kb ?_|(refine Kc ?_;intro _))|refine Kd ?_|refine Kh ?_)
     rename_i b9 sv2
     refine Post.round (i+1,sv2,xs++[d+c+ee - 1000000000],1) ⟨by simp only;omega,by simp;omega,small_snoc hxs (by omega),Nat.le_refl 1,?_⟩ (by simp only;omega) (by (exact Sub.au)) (by (exact Ents.au))
     simp only
     rw [valB_snoc,hxl,hta,htb,Nat.pow_succ]
     exact plus_step hval (by omega)
    ·have e9:((d:Int)+c+ee)=((d+c+ee:Nat):Int):=by omega
     rw [e9]
     (repeat' first|(refine Ka ?_;first|refine Kb ?_|(refine Kc ?_;intro _))|refine Kd ?_|refine Kh ?_)
     rename_i b9 sv2
     refine Post.round (i+1,sv2,xs++[d+c+ee],0) ⟨by simp only;omega,by simp;omega,small_snoc hxs (by omega),Nat.zero_le 1,?_⟩ (by simp only;omega) (by (exact Sub.au)) (by (exact Ents.au))
     simp only
     rw [valB_snoc,hxl,hta,htb,Nat.pow_succ]
     exact plus_step hval (by omega)
  ·have hie:i=(mag a').length:=by omega
   rw [valB_take_ge (by omega),valB_take_ge (by omega),valB_mag,valB_mag] at hval
   have hxl2:xs.length≤100000000:=by omega
   (repeat' first|(refine Ka ?_;first|refine Kb ?_|(refine Kc ?_;intro _))|refine Kd ?_|refine Kh ?_)
   ((show Tri _ _ _ (.cond _ _ _) _ _ _;first|refine Tri.condP rfl (fun hc=>?_) (fun hc=>?_)|refine Tri.condN rfl (fun hc=>?_) (fun hc=>?_)))
   ·have hc0:c=1:=by omega
    subst hc0
    have h1:=sum_end1 (a:=a') (b:=b') hxs (by omega) (by rw [hxl];omega)
    (repeat' first|(refine Ka ?_;first|refine Kb ?_|(refine Kc ?_;intro _))|refine Kd ?_|refine Kh ?_)
    rename_i b9 sv2
    (refine Post.ra ?_)
    refine ⟨_,rfl,?_⟩
    rw [← h1]
    exact Ents.trans Ents.freeze (by (exact Ents.au))
   ·have hc0:c=0:=by omega
    subst hc0
    have h1:=sum_end0 (a:=a') (b:=b') hxs (by omega) (by omega) hlen
    (repeat' first|(refine Ka ?_;first|refine Kb ?_|(refine Kc ?_;intro _))|refine Kd ?_|refine Kh ?_)
    (refine Post.ra ?_)
    refine ⟨_,rfl,?_⟩
    rw [← h1]
    exact Ents.trans Ents.freeze (by (exact Ents.au))
theorem compareU_ok {x y:Int}:CallsS Tryz.prog w0 307 [.int .u32 x,.int .u32 y] As fun u Bs=>u=.int .i64 (Lib.compareInt x y)∧Bs=As:=by
 refine CallsS.of_tri Tryz.func307 rfl Tryz.ntmps307 rfl ?_
 have hnan:∀ {z:Int} {As:List Ent},CallsS Tryz.prog w0 348 [.int .u32 z] As fun u Bs=>u=.bool (!decide (z=z))∧Bs=As:=fun {z As}=>by
  refine CallsS.of_tri Tryz.func348 rfl Tryz.ntmps348 rfl ?_
  (repeat' first|(refine Ka ?_;first|refine Kb ?_|(refine Kc ?_;intro _))|refine Kd ?_|refine Kh ?_)
  (refine Post.ra ?_)
  exact ⟨_,⟨rfl,rfl⟩,by (exact Ents.au)⟩
 (repeat' first|(refine Ka ?_;first|refine Kb ?_|(refine Kc ?_;intro _))|refine Kd ?_|refine Kh ?_)
 refine TL.call rfl rfl rfl hnan ?_
 rintro _ As ⟨rfl,rfl⟩
 (repeat' first|(refine Ka ?_;first|refine Kb ?_|(refine Kc ?_;intro _))|refine Kd ?_|refine Kh ?_)
 refine TL.call rfl rfl rfl hnan ?_
 rintro _ As ⟨rfl,rfl⟩
 have h1:(!decide (x=x))=false:=by simp
 have h2:(!decide (y=y))=false:=by simp
 rw [h1,h2]
 (repeat' (first|((show TL _ _ _ _ (_::_) _ _ _;first|refine TL.fa ?_|refine TL.ua ?_|(refine TL.rba ?_;intro _)|(refine TL.rra ?_;first|rintro _ _ ⟨rfl,rfl⟩|rintro _ _ rfl)|refine TL.offa ?_|refine TL.off0a ?_|refine TL.gu ?_|fail))|(refine Stp.h ?_)|((show Tri _ _ _ (.cond _ _ _) _ _ _;first|refine Tri.cTa ?_|refine Tri.cFa ?_|refine Tri.condTa ?_|refine Tri.condFa ?_|refine Tri.condNTa ?_|refine Tri.condNFa ?_|fail))|(first|refine TL.gsplit rfl rfl (fun hgs=>?_) (fun hgs=>?_)|refine TL.gsplitN rfl rfl (fun hgs=>?_) (fun hgs=>?_)|refine TT.gsplit rfl rfl rfl (fun hgs=>?_) (fun hgs=>?_)|refine TT.gsplitN rfl rfl rfl (fun hgs=>?_) (fun hgs=>?_))|((show Tri _ _ _ (.cond _ _ _) _ _ _;first|refine Tri.condP rfl (fun hc=>?_) (fun hc=>?_)|refine Tri.condN rfl (fun hc=>?_) (fun hc=>?_)))))
 ·(refine Post.ra ?_)
  exact ⟨_,⟨by rw [Lib.compareInt,if_pos (by assumption)],rfl⟩,by (exact Ents.au)⟩
 ·(refine Post.ra ?_)
  exact ⟨_,⟨by rw [Lib.compareInt,if_neg (by omega),if_pos (by omega)],rfl⟩,by (exact Ents.au)⟩
 ·(refine Post.ra ?_)
  exact ⟨_,⟨by rw [Lib.compareInt,if_neg (by omega),if_neg (by omega)],rfl⟩,by (exact Ents.au)⟩
theorem compare_ok {v o:Value} {a b:Nat} [hf:RdIn As v Nat (cN .u32) (mag a)] [hg:RdIn As o Nat (cN .u32) (mag b)] (ha:(mag a).length≤100000000) (hb:(mag b).length≤100000000):CallsS Tryz.prog w0 331 [v,o] As fun u Bs=>u=.int .i64 (Lib.compareInt a b)∧Bs=As:=by
 refine CallsS.of_tri Tryz.func331 rfl Tryz.ntmps331 rfl ?_
 have hlt:∀ {a b:Nat},a < b→Lib.compareInt a b=-1:=fun h=>by rw [Lib.compareInt,if_pos (by omega)]
 have hgt:∀ {a b:Nat},b < a→Lib.compareInt a b=1:=fun h=>by rw [Lib.compareInt,if_neg (by omega),if_pos (by omega)]
 (repeat' first|(refine Ka ?_;first|refine Kb ?_|(refine Kc ?_;intro _))|refine Kd ?_|refine Kh ?_)
 ((show Tri _ _ _ (.cond _ _ _) _ _ _;first|refine Tri.condP rfl (fun hc=>?_) (fun hc=>?_)|refine Tri.condN rfl (fun hc=>?_) (fun hc=>?_)))
 ·(repeat' first|(refine Ka ?_;first|refine Kb ?_|(refine Kc ?_;intro _))|refine Kd ?_|refine Kh ?_)
  refine TL.call rfl rfl rfl compareInt_ok ?_
  rintro _ As ⟨rfl,rfl⟩
  (repeat' first|(refine Ka ?_;first|refine Kb ?_|(refine Kc ?_;intro _))|refine Kd ?_|refine Kh ?_)
  (refine Post.ra ?_)
  refine ⟨_,⟨?_,rfl⟩,by (exact Ents.au)⟩
  rcases Nat.lt_or_gt_of_ne (show (mag a).length≠(mag b).length by omega) with h|h
  ·rw [hlt h,hlt (cmp_len h)]
  ·rw [hgt h,hgt (cmp_len h)]
 ·have hlen:(mag b).length=(mag a).length:=by omega
  have hdiv:∀ {n:Nat},(mag n).length=(mag a).length→n / 1000000000 ^ (mag a).length=0:=fun h=>by rw [← h];exact Nat.div_eq_of_lt (mag_lt_pow _)
  (repeat' first|(refine Ka ?_;first|refine Kb ?_|(refine Kc ?_;intro _))|refine Kd ?_|refine Kh ?_)
  refine Tri.loop (ι:=Nat) (fun j=>j≤(mag a).length∧a / 1000000000 ^ j=b / 1000000000 ^ j) (fun j=>j)
   (fun j=>[(0,v),(1,o),(5,.int .i64 ((j:Int) - 1))]) (fun _=>As) (mag a).length ⟨Nat.le_refl _,by rw [hdiv rfl,hdiv hlen]⟩ (by (exact Sub.au)) (by (exact Ents.au)) ?_
  intro j ⟨hj,hq⟩
  cases j with
  | zero =>
   rw [show ((0:Nat):Int) - 1=-1 from rfl]
   (repeat' first|(refine Ka ?_;first|refine Kb ?_|(refine Kc ?_;intro _))|refine Kd ?_|refine Kh ?_)
   (refine Post.ra ?_)
   have:a=b:=by simpa using hq
   subst this
   exact ⟨_,⟨by rw [Lib.compareInt,if_neg (by omega),if_neg (by omega)],rfl⟩,by (exact Ents.au)⟩
  | succ j =>
   rw [show ((j+1:Nat):Int) - 1=(j:Int) by omega]
   obtain ⟨d,hd⟩:∃ d,(mag a)[j]?=some d:=⟨_,List.getElem?_eq_getElem (by omega)⟩
   obtain ⟨ee,he⟩:∃ d,(mag b)[j]?=some d:=⟨_,List.getElem?_eq_getElem (by omega)⟩
   obtain ⟨k1,_,_⟩:=mag_get hd
   obtain ⟨l1,_,_⟩:=mag_get he
   (repeat' first|(refine Ka ?_;first|refine Kb ?_|(refine Kc ?_;intro _))|refine Kd ?_|refine Kh ?_)
   refine Tri.dr (.take 0 (.take 1 (.take 2 (.take 3 (.take 4 (.take 5 (.take 6 (.take 7 (.take 8 (.done)))))))))) ?_
   (repeat' first|(refine Ka ?_;first|refine Kb ?_|(refine Kc ?_;intro _))|refine Kd ?_|(refine Ki ?_;refine Kj ?_)|exact Kk|refine Kl ?_ ?_|(refine Km ?_;first|refine Kn ?_|(refine Ko ?_;intro _))|(refine Kp ?_;first|refine Kq ?_|refine Kr ?_)|refine Kh ?_)
   ((show Tri _ _ _ (.cond _ _ _) _ _ _;first|refine Tri.condP rfl (fun hc=>?_) (fun hc=>?_)|refine Tri.condN rfl (fun hc=>?_) (fun hc=>?_)))
   ·(repeat' first|(refine Ka ?_;first|refine Kb ?_|(refine Kc ?_;intro _))|refine Kd ?_|(refine Ki ?_;refine Kj ?_)|exact Kk|refine Kl ?_ ?_|(refine Km ?_;first|refine Kn ?_|(refine Ko ?_;intro _))|(refine Kp ?_;first|refine Kq ?_|refine Kr ?_)|refine Kh ?_)
    refine Tri.dr (.take 0 (.take 1 (.take 2 (.take 3 (.take 4 (.take 5 (.take 6 (.take 7 (.all [(8,.take 9 (.done))]))))))))) ?_
    (repeat' first|(refine Ka ?_;first|refine Kb ?_|(refine Kc ?_;intro _))|refine Kd ?_|(refine Ki ?_;refine Kj ?_)|exact Kk|refine Kl ?_ ?_|(refine Km ?_;first|refine Kn ?_|(refine Ko ?_;intro _))|(refine Kp ?_;first|refine Kq ?_|refine Kr ?_)|refine Kh ?_)
    refine T1.call rfl rfl rfl rfl compareU_ok ?_
    rintro _ As ⟨rfl,rfl⟩
    (repeat' first|(refine Ka ?_;first|refine Kb ?_|(refine Kc ?_;intro _))|refine Kd ?_|(refine Ki ?_;refine Kj ?_)|exact Kk|refine Kl ?_ ?_|(refine Km ?_;first|refine Kn ?_|(refine Ko ?_;intro _))|(refine Kp ?_;first|refine Kq ?_|refine Kr ?_)|refine Kh ?_)
    (refine Post.ra ?_)
    refine ⟨_,⟨?_,rfl⟩,by (exact Ents.au)⟩
    rcases Nat.lt_or_gt_of_ne (show d≠ee by omega) with h|h
    ·rw [hlt h,hlt (cmp_group hq k1 l1 h)]
    ·rw [hgt h,hgt (cmp_group hq.symm l1 k1 h)]
   ·(repeat' first|(refine Ka ?_;first|refine Kb ?_|(refine Kc ?_;intro _))|refine Kd ?_|(refine Ki ?_;refine Kj ?_)|exact Kk|refine Kl ?_ ?_|(refine Km ?_;first|refine Kn ?_|(refine Ko ?_;intro _))|(refine Kp ?_;first|refine Kq ?_|refine Kr ?_)|refine Kh ?_)
    refine Post.round j ⟨by omega,?_⟩ (by omega) (by (exact Sub.au)) (by (exact Ents.au))
    have:d=ee:=by omega
    rw [k1,l1,hq,this]
end Go.Proofs.YtkcnpgmgmgepoaaGreatDoor
namespace Go.Proofs.YtkcnpgmgmgepoaaGreatDoor
open Go Go.Sx
variable {w0:World} {As:List Ent}
theorem minus_ok {v o:Value} {a b:Nat} [hf:RdIn As v Nat (cN .u32) (mag a)] [hg:RdIn As o Nat (cN .u32) (mag b)] (hab:b≤a) (ha:(mag a).length≤100000000):CallsS Tryz.prog w0 332 [v,o] As (MagR As (a - b)):=by
 have hlb:=mag_len_le hab
 have hsa:=mag_small a
 have hsb:=mag_small b
 have hrl:(List.replicate (mag a).length 0).length=(mag a).length:=List.length_replicate
 refine CallsS.of_tri Tryz.func332 rfl Tryz.ntmps332 rfl ?_
 (repeat' first|(refine Ka ?_;first|refine Kb ?_|(refine Kc ?_;intro _))|refine Kd ?_|refine Kh ?_)
 rename_i sv
 refine Tri.loop (ι:=Nat × List Nat × Nat) (fun s=>s.1≤(mag a).length∧s.2.1.length=(mag a).length∧(∀ x∈s.2.1,x < 1000000000)∧s.2.2≤1∧valB (s.2.1.take s.1)+valB ((mag b).take s.1)=valB ((mag a).take s.1)+1000000000 ^ s.1 * s.2.2) (fun s=>(mag a).length - s.1)
  (fun s=>[(1,o),(5,sv),(6,.int .u32 (s.2.2:Int)),(13,v),(14,.int .i64 (mag a).length),(15,.int .i64 (s.1:Int))]) (fun s=>.ow (cN .u32) 95 sv s.2.1::As)
  (0,List.replicate (mag a).length 0,0) ⟨by omega,hrl,(fun x h=>by rw [List.eq_of_mem_replicate h];decide),Nat.zero_le 1,by simp [valB]⟩ (by (exact Sub.au)) (by (exact Ents.au)) ?_
 rintro ⟨i,xs,c⟩ ⟨hi,hxl,hxs,hc1,hval⟩
 simp only at hi hxl hxs hc1 hval
 show Tri _ _ _ _ [(1,o),(5,sv),(6,.int .u32 (c:Int)),(13,v),(14,_),(15,.int .i64 (i:Int))] (.ow (cN .u32) 95 sv xs::As) _
 (repeat' first|(refine Ka ?_;first|refine Kb ?_|(refine Kc ?_;intro _))|refine Kd ?_|refine Kh ?_)
 ((show Tri _ _ _ (.cond _ _ _) _ _ _;first|refine Tri.condP rfl (fun hc=>?_) (fun hc=>?_)|refine Tri.condN rfl (fun hc=>?_) (fun hc=>?_)))
 ·obtain ⟨d,hd⟩:∃ d,(mag a)[i]?=some d:=⟨_,List.getElem?_eq_getElem (by omega)⟩
  have hd9:=hsa d (List.mem_of_getElem? hd)
  have hta:=valB_take hd
  obtain ⟨ee,he9,htb,heb⟩:∃ ee,ee < 1000000000∧valB ((mag b).take (i+1))=valB ((mag b).take i)+1000000000 ^ i * ee∧((i < (mag b).length∧(mag b)[i]?=some ee)∨(¬ i < (mag b).length∧ee=0)):=by
   by_cases h:i < (mag b).length
   ·have h1:(mag b)[i]?=some (mag b)[i]:=List.getElem?_eq_getElem h
    exact ⟨_,hsb _ (List.mem_of_getElem? h1),valB_take h1,.inl ⟨h,h1⟩⟩
   ·exact ⟨0,by omega,by rw [valB_take_ge (by omega),valB_take_ge (by omega)];omega,.inr ⟨h,rfl⟩⟩
  have hset:∀ g c',g < 1000000000→c'≤1→g+c+ee=d+1000000000 * c'→∀ {Q:Exit→Act→World→Prop} {e:Env},Sub e [(1,o),(5,sv),(6,.int .u32 (c':Int)),(13,v),(14,.int .i64 (mag a).length),(15,.int .i64 ((i+1:Nat):Int))] →
        valB ((xs.set i g).take (i+1))+valB ((mag b).take (i+1))=valB ((mag a).take (i+1))+1000000000 ^ (i+1) * c':=fun g c' hg9 hc9 hgc Q e _=>by
   have h1:(xs.set i g)[i]?=some g:=by rw [List.getElem?_set,if_pos rfl,if_pos (by omega)]
   rw [valB_take h1,List.take_set_of_le (Nat.le_refl i),hta,htb,Nat.pow_succ]
   exact minus_step hval hgc
  (repeat' first|(refine Ka ?_;first|refine Kb ?_|(refine Kc ?_;intro _))|refine Kd ?_|refine Kh ?_)
  refine Tri.mid (fun e' As'=>e'=[(1,o),(5,sv),(7,.int .i64 (i:Int)),(8,.int .u32 (d:Int)),(9,.int .u32 ((c:Int)+ee)),(13,v),(14,.int .i64 (mag a).length),(15,.int .i64 (i:Int))]∧As'=.ow (cN .u32) 95 sv xs::As) ?_ ?_
  ·rcases heb with ⟨h1,h2⟩|⟨h1,rfl⟩
   ·(repeat' first|(refine Ka ?_;first|refine Kb ?_|(refine Kc ?_;intro _))|refine Kd ?_|refine Kh ?_)
    exact Post.cut _ _ ⟨rfl,rfl⟩ (by (exact Sub.au)) (by (exact Ents.au))
   ·(repeat' first|(refine Ka ?_;first|refine Kb ?_|(refine Kc ?_;intro _))|refine Kd ?_|refine Kh ?_)
    refine Post.cut _ _ ⟨rfl,rfl⟩ ?_ (by (exact Ents.au))
    rw [show ((c:Int)+((0:Nat):Int))=(c:Int) by omega]
    (exact Sub.au)
  ·rintro _ _ ⟨rfl,hB⟩
   subst hB
   (repeat' first|(refine Ka ?_;first|refine Kb ?_|(refine Kc ?_;intro _))|refine Kd ?_|refine Kh ?_)
   ((show Tri _ _ _ (.cond _ _ _) _ _ _;first|refine Tri.condP rfl (fun hc=>?_) (fun hc=>?_)|refine Tri.condN rfl (fun hc=>?_) (fun hc=>?_)))
   ·have e9:((d:Int)+1000000000 - ((c:Int)+ee))=((d+1000000000 - (c+ee):Nat):Int):=by omega
    (repeat' first|(refine Ka ?_;first|refine Kb ?_|(refine Kc ?_;intro _))|refine Kd ?_|refine Kh ?_)
    rw [e9]
    (repeat' first|(refine Ka ?_;first|refine Kb ?_|(refine Kc ?_;intro _))|refine Kd ?_|refine Kh ?_)
    refine Post.round (i+1,xs.set i (d+1000000000 - (c+ee)),1) ⟨by simp only;omega,by simp;omega,small_set hxs (by omega),Nat.le_refl 1,hset _ 1 (by omega) (by omega) (by omega) (Q:=fun _ _ _=>True) (e:=[(1,o),(5,sv),(6,.int .u32 ((1:Nat):Int)),(13,v),(14,.int .i64 (mag a).length),(15,.int .i64 ((i+1:Nat):Int))]) (by (exact Sub.au))⟩ (by simp only;omega) (by (exact Sub.au)) (by (exact Ents.au))
   ·have e9:((d:Int) - ((c:Int)+ee))=((d - (c+ee):Nat):Int):=by omega
    (repeat' first|(refine Ka ?_;first|refine Kb ?_|(refine Kc ?_;intro _))|refine Kd ?_|refine Kh ?_)
    rw [e9]
    (repeat' first|(refine Ka ?_;first|refine Kb ?_|(refine Kc ?_;intro _))|refine Kd ?_|refine Kh ?_)
    refine Post.round (i+1,xs.set i (d - (c+ee)),0) ⟨by simp only;omega,by simp;omega,small_set hxs (by omega),Nat.zero_le 1,hset _ 0 (by omega) (by omega) (by omega) (Q:=fun _ _ _=>True) (e:=[(1,o),(5,sv),(6,.int .u32 ((0:Nat):Int)),(13,v),(14,.int .i64 (mag a).length),(15,.int .i64 ((i+1:Nat):Int))]) (by (exact Sub.au))⟩ (by simp only;omega) (by (exact Sub.au)) (by (exact Ents.au))
 ·have hie:i=(mag a).length:=by omega
  rw [valB_take_ge (by omega),valB_take_ge (by omega),valB_take_ge (by omega),valB_mag,valB_mag] at hval
  have hX:=valB_lt hxs
  rw [hxl,← hie] at hX
  have hc0:c=0:=by
   rcases Nat.lt_or_ge 0 c with h|h
   ·have:c=1:=by omega
    subst this
    omega
   ·omega
  subst hc0
  have hv:valB xs=a - b:=by omega
  (repeat' first|(refine Ka ?_;first|refine Kb ?_|(refine Kc ?_;intro _))|refine Kd ?_|refine Kh ?_)
  refine TL.ents Ents.freeze ?_
  refine TL.call rfl rfl rfl (trim_ok hxs (by omega)) ?_
  rintro _ _ ⟨p,cap,rfl,rfl⟩
  rw [hv]
  (repeat' first|(refine Ka ?_;first|refine Kb ?_|(refine Kc ?_;intro _))|refine Kd ?_|refine Kh ?_)
  (refine Post.ra ?_)
  exact ⟨_,⟨p,cap,rfl,rfl⟩,by (exact Ents.au)⟩
end Go.Proofs.YtkcnpgmgmgepoaaGreatDoor
namespace Go.Proofs.YtkcnpgmgmgepoaaGreatDoor
open Go Go.Sx
variable {w0:World} {As:List Ent}
def SgnR (As:List Ent) (z:Int) (u:Value) (Bs:List Ent):Prop:=∃ p cap,u=.agg #[.slice p (mag z.natAbs).length cap,.bool (decide (z < 0))]∧Bs=.ft (rd (cN .u32) (.slice p (mag z.natAbs).length cap) (mag z.natAbs))::As
theorem sgnR_of {n:Nat} {b:Bool} {z:Int} {p:Option Addr} {cap:Nat} (h1:z.natAbs=n) (h2:decide (z < 0)=(b&&decide (n≠0))) :
  SgnR As z (.agg #[.slice p (mag n).length cap,.bool (b&&decide (n≠0))]) (.ft (rd (cN .u32) (.slice p (mag n).length cap) (mag n))::As):=⟨p,cap,by rw [h1,h2],by rw [h1]⟩
theorem cmp_lt {a b:Nat}:Lib.compareInt a b < 0↔a < b:=by
 unfold Lib.compareInt
 split
 ·simp;omega
 ·split<;>simp<;>omega
theorem sum_ok {v o:Value} {x y:Int} [hf:RdIn As v Nat (cN .u32) (mag x.natAbs)] [hg:RdIn As o Nat (cN .u32) (mag y.natAbs)] (ha:(mag x.natAbs).length≤100000000) (hb:(mag y.natAbs).length≤100000000) :
  CallsS Tryz.prog w0 266 [.agg #[v,.bool (decide (x < 0))],.agg #[o,.bool (decide (y < 0))]] As (SgnR As (x+y)):=by
 refine CallsS.rdSl v fun pv cv hv=>CallsS.rdSl o fun po co ho=>?_
 subst hv ho
 refine CallsS.of_tri Tryz.func266 rfl Tryz.ntmps266 rfl ?_
 (repeat' first|(refine Ka ?_;first|refine Kb ?_|(refine Kc ?_;intro _))|refine Kd ?_|refine Kh ?_)
 ((show Tri _ _ _ (.cond _ _ _) _ _ _;first|refine Tri.condP rfl (fun hc=>?_) (fun hc=>?_)|refine Tri.condN rfl (fun hc=>?_) (fun hc=>?_)))
 ·have hs:(x < 0∧y < 0)∨(¬ x < 0∧¬ y < 0):=by
   by_cases h1:x < 0<;>by_cases h2:y < 0<;>simp [h1,h2] at hc<;>omega
  have e1:(x+y).natAbs=x.natAbs+y.natAbs:=by omega
  have e2:decide (x+y < 0)=(decide (x < 0)&&decide (x.natAbs+y.natAbs≠0)):=by
   rcases hs with ⟨h1,h2⟩|⟨h1,h2⟩
   ·simp only [h1,decide_true,Bool.true_and];rw [Bool.eq_iff_iff,decide_eq_true_eq,decide_eq_true_eq];omega
   ·simp only [h1,decide_false,Bool.false_and];rw [decide_eq_false_iff_not];omega
  (repeat' first|(refine Ka ?_;first|refine Kb ?_|(refine Kc ?_;intro _))|refine Kd ?_|refine Kh ?_)
  refine Tri.dr (.take 0 (.take 1 (.take 2 (.take 3 (.take 5 (.take 6 (.all [(4,.all [(7,.all [(8,.done)])])]))))))) ?_
  (repeat' first|(refine Ka ?_;first|refine Kb ?_|(refine Kc ?_;intro _))|refine Kd ?_|(refine Ki ?_;refine Kj ?_)|exact Kk|refine Kl ?_ ?_|(refine Km ?_;first|refine Kn ?_|(refine Ko ?_;intro _))|(refine Kp ?_;first|refine Kq ?_|refine Kr ?_)|refine Kh ?_)
  refine T1.call rfl rfl rfl rfl (plus_ok ha hb) ?_
  rintro _ _ ⟨p,cap,rfl,rfl⟩
  (repeat' first|(refine Ka ?_;first|refine Kb ?_|(refine Kc ?_;intro _))|refine Kd ?_|(refine Ki ?_;refine Kj ?_)|exact Kk|refine Kl ?_ ?_|(refine Km ?_;first|refine Kn ?_|(refine Ko ?_;intro _))|(refine Kp ?_;first|refine Kq ?_|refine Kr ?_)|refine Kh ?_)
  refine Kw rfl rfl rfl rfl (of_ok (n:=x.natAbs+y.natAbs)) ?_
  (repeat' first|(refine Ka ?_;first|refine Kb ?_|(refine Kc ?_;intro _))|refine Kd ?_|(refine Ki ?_;refine Kj ?_)|exact Kk|refine Kl ?_ ?_|(refine Km ?_;first|refine Kn ?_|(refine Ko ?_;intro _))|(refine Kp ?_;first|refine Kq ?_|refine Kr ?_)|refine Kh ?_)
  (refine Post.ra ?_)
  exact ⟨_,sgnR_of e1 e2,by (exact Ents.au)⟩
 ·have hs:(x < 0∧¬ y < 0)∨(¬ x < 0∧y < 0):=by
   by_cases h1:x < 0<;>by_cases h2:y < 0<;>simp [h1,h2] at hc<;>omega
  (repeat' first|(refine Ka ?_;first|refine Kb ?_|(refine Kc ?_;intro _))|refine Kd ?_|refine Kh ?_)
  refine TL.call rfl rfl rfl (compare_ok ha hb) ?_
  rintro _ As ⟨rfl,rfl⟩
  (repeat' first|(refine Ka ?_;first|refine Kb ?_|(refine Kc ?_;intro _))|refine Kd ?_|refine Kh ?_)
  ((show Tri _ _ _ (.cond _ _ _) _ _ _;first|refine Tri.condP rfl (fun hc=>?_) (fun hc=>?_)|refine Tri.condN rfl (fun hc=>?_) (fun hc=>?_)))
  ·have hlt:=cmp_lt.1 hc
   have e1:(x+y).natAbs=y.natAbs - x.natAbs:=by omega
   have e2:decide (x+y < 0)=(decide (y < 0)&&decide (y.natAbs - x.natAbs≠0)):=by
        by_cases h2:y < 0
        ·simp only [h2,decide_true,Bool.true_and];rw [Bool.eq_iff_iff,decide_eq_true_eq,decide_eq_true_eq];omega
        ·simp only [h2,decide_false,Bool.false_and];rw [decide_eq_false_iff_not];omega
   (repeat' first|(refine Ka ?_;first|refine Kb ?_|(refine Kc ?_;intro _))|refine Kd ?_|refine Kh ?_)
   refine Tri.dr (.take 0 (.take 1 (.take 2 (.take 3 (.take 5 (.take 6 (.all [(4,.all [(7,.all [(8,.done)])])]))))))) ?_
   (repeat' first|(refine Ka ?_;first|refine Kb ?_|(refine Kc ?_;intro _))|refine Kd ?_|(refine Ki ?_;refine Kj ?_)|exact Kk|refine Kl ?_ ?_|(refine Km ?_;first|refine Kn ?_|(refine Ko ?_;intro _))|(refine Kp ?_;first|refine Kq ?_|refine Kr ?_)|refine Kh ?_)
   refine T1.call rfl rfl rfl rfl (minus_ok (by omega) hb) ?_
   rintro _ _ ⟨p,cap,rfl,rfl⟩
   (repeat' first|(refine Ka ?_;first|refine Kb ?_|(refine Kc ?_;intro _))|refine Kd ?_|(refine Ki ?_;refine Kj ?_)|exact Kk|refine Kl ?_ ?_|(refine Km ?_;first|refine Kn ?_|(refine Ko ?_;intro _))|(refine Kp ?_;first|refine Kq ?_|refine Kr ?_)|refine Kh ?_)
   refine Kw rfl rfl rfl rfl (of_ok (n:=y.natAbs - x.natAbs)) ?_
   (repeat' first|(refine Ka ?_;first|refine Kb ?_|(refine Kc ?_;intro _))|refine Kd ?_|(refine Ki ?_;refine Kj ?_)|exact Kk|refine Kl ?_ ?_|(refine Km ?_;first|refine Kn ?_|(refine Ko ?_;intro _))|(refine Kp ?_;first|refine Kq ?_|refine Kr ?_)|refine Kh ?_)
   (refine Post.ra ?_)
   exact ⟨_,sgnR_of e1 e2,by (exact Ents.au)⟩
  ·have hlt:¬ x.natAbs < y.natAbs:=fun h=>hc (cmp_lt.2 h)
   have e1:(x+y).natAbs=x.natAbs - y.natAbs:=by omega
   have e2:decide (x+y < 0)=(decide (x < 0)&&decide (x.natAbs - y.natAbs≠0)):=by
        by_cases h2:x < 0
        ·simp only [h2,decide_true,Bool.true_and];rw [Bool.eq_iff_iff,decide_eq_true_eq,decide_eq_true_eq];omega
        ·simp only [h2,decide_false,Bool.false_and];rw [decide_eq_false_iff_not];omega
   (repeat' first|(refine Ka ?_;first|refine Kb ?_|(refine Kc ?_;intro _))|refine Kd ?_|refine Kh ?_)
   refine Tri.dr (.take 0 (.take 1 (.take 2 (.take 3 (.take 5 (.take 6 (.all [(4,.all [(7,.all [(8,.done)])])]))))))) ?_
   (repeat' first|(refine Ka ?_;first|refine Kb ?_|(refine Kc ?_;intro _))|refine Kd ?_|(refine Ki ?_;refine Kj ?_)|exact Kk|refine Kl ?_ ?_|(refine Km ?_;first|refine Kn ?_|(refine Ko ?_;intro _))|(refine Kp ?_;first|refine Kq ?_|refine Kr ?_)|refine Kh ?_)
   refine T1.call rfl rfl rfl rfl (minus_ok (by omega) ha) ?_
   rintro _ _ ⟨p,cap,rfl,rfl⟩
   (repeat' first|(refine Ka ?_;first|refine Kb ?_|(refine Kc ?_;intro _))|refine Kd ?_|(refine Ki ?_;refine Kj ?_)|exact Kk|refine Kl ?_ ?_|(refine Km ?_;first|refine Kn ?_|(refine Ko ?_;intro _))|(refine Kp ?_;first|refine Kq ?_|refine Kr ?_)|refine Kh ?_)
   refine Kw rfl rfl rfl rfl (of_ok (n:=x.natAbs - y.natAbs)) ?_
   (repeat' first|(refine Ka ?_;first|refine Kb ?_|(refine Kc ?_;intro _))|refine Kd ?_|(refine Ki ?_;refine Kj ?_)|exact Kk|refine Kl ?_ ?_|(refine Km ?_;first|refine Kn ?_|(refine Ko ?_;intro _))|(refine Kp ?_;first|refine Kq ?_|refine Kr ?_)|refine Kh ?_)
   (refine Post.ra ?_)
   exact ⟨_,sgnR_of e1 e2,by (exact Ents.au)⟩
def PairR (As:List Ent) (r s:Option Int) (u:Value) (Bs:List Ent):Prop:=∃ p cap q cap',u=(if r.isSome∧s.isSome then .tuple #[.agg #[.slice p (mag (r.getD 0).natAbs).length cap,.bool (decide (r.getD 0 < 0))],.agg #[.slice q (mag (s.getD 0).natAbs).length cap',.bool (decide (s.getD 0 < 0))],.int .i64 0] else .tuple #[.agg #[.slice none 0 0,.bool false],.agg #[.slice none 0 0,.bool false],.int .i64 10]) ∧
 Bs=.ft (rd (cN .u32) (.slice q (mag (s.getD 0).natAbs).length cap') (mag (s.getD 0).natAbs))::.ft (rd (cN .u32) (.slice p (mag (r.getD 0).natAbs).length cap) (mag (r.getD 0).natAbs))::As
theorem pair_ok {s t:List UInt8} (hs:s.length≤1000000000) (ht:t.length≤1000000000):CallsS Tryz.prog w0 265 [.string ⟨s.toArray⟩,.string ⟨t.toArray⟩] As (PairR As (readW s) (readW t)):=by
 refine CallsS.of_tri Tryz.func265 rfl Tryz.ntmps265 rfl ?_
 (repeat' first|(refine Ka ?_;first|refine Kb ?_|(refine Kc ?_;intro _))|refine Kd ?_|refine Kh ?_)
 refine TL.call rfl rfl rfl (read_ok hs) ?_
 rintro _ _ ⟨p,cap,rfl,rfl⟩
 (repeat' first|(refine Ka ?_;first|refine Kb ?_|(refine Kc ?_;intro _))|refine Kd ?_|refine Kh ?_)
 refine TL.call rfl rfl rfl (read_ok ht) ?_
 rintro _ _ ⟨q,cap',rfl,rfl⟩
 cases h1:readW s with
 | none =>
  (repeat' first|(refine Ka ?_;first|refine Kb ?_|(refine Kc ?_;intro _))|refine Kd ?_|refine Kh ?_)
  (refine Post.ra ?_)
  exact ⟨_,⟨p,cap,q,cap',by simp,rfl⟩,by (exact Ents.au)⟩
 | some x =>
  cases h2:readW t with
  | none =>
   (repeat' first|(refine Ka ?_;first|refine Kb ?_|(refine Kc ?_;intro _))|refine Kd ?_|refine Kh ?_)
   (refine Post.ra ?_)
   exact ⟨_,⟨p,cap,q,cap',by simp,rfl⟩,by (exact Ents.au)⟩
  | some y =>
   (repeat' first|(refine Ka ?_;first|refine Kb ?_|(refine Kc ?_;intro _))|refine Kd ?_|refine Kh ?_)
   rename_i b4 b5
   refine Tri.dw [] [(0,.c b4),(1,.c b5)] (.take 0 (.take 1 (.all [(2,.all [(3,.take 4 (.done))])]))) ?_
   (repeat' first|(refine Ka ?_;first|refine Kb ?_|(refine Kc ?_;intro _))|refine Kd ?_|(refine Ki ?_;refine Kj ?_)|exact Kk|refine Kl ?_ ?_|(refine Km ?_;first|refine Kn ?_|(refine Ko ?_;intro _))|(refine Kp ?_;first|refine Kq ?_|refine Kr ?_)|refine Kh ?_)
   (refine Post.ra ?_)
   exact ⟨_,⟨p,cap,q,cap',by simp,rfl⟩,by (exact Ents.au)⟩
def addW (s t:List UInt8):List UInt8 × Int:=match readW s,readW t with
 | some x,some y=>outW (x+y)
 | _,_=>([],10)
theorem operate0_ok (ht:Tab w0) {s t:List UInt8} (hs:s.length≤1000000000) (hl:t.length≤1000000000) :
  CallsS Tryz.prog w0 161 [.int .i64 0,.string ⟨s.toArray⟩,.string ⟨t.toArray⟩] As fun u Bs=>u=.tuple #[.string ⟨(addW s t).1.toArray⟩,.int .i64 (addW s t).2]∧Bs=As:=by
 refine CallsS.of_tri Tryz.func161 rfl Tryz.ntmps161 rfl ?_
 (repeat' first|(refine Ka ?_;first|refine Kb ?_|(refine Kc ?_;intro _))|refine Kd ?_|refine Kh ?_)
 refine TL.call rfl rfl rfl (pair_ok hs hl) ?_
 rintro _ _ ⟨p,cap,q,cap',rfl,rfl⟩
 unfold addW
 cases h1:readW s with
 | none =>
  simp only [Option.isSome_none,Bool.false_eq_true,false_and,if_false]
  (repeat' first|(refine Ka ?_;first|refine Kb ?_|(refine Kc ?_;intro _))|refine Kd ?_|refine Kh ?_)
  (refine Post.ra ?_)
  exact ⟨_,⟨rfl,rfl⟩,by (exact Ents.au)⟩
 | some x =>
  cases h2:readW t with
  | none =>
   simp only [Option.isSome_none,Bool.false_eq_true,and_false,if_false]
   (repeat' first|(refine Ka ?_;first|refine Kb ?_|(refine Kc ?_;intro _))|refine Kd ?_|refine Kh ?_)
   (refine Post.ra ?_)
   exact ⟨_,⟨rfl,rfl⟩,by (exact Ents.au)⟩
  | some y =>
   simp only [Option.isSome_some,and_self,if_true,Option.getD_some]
   have l1:=readW_len h1
   have l2:=readW_len h2
   have l3:=add_len (readW_lt h1) (readW_lt h2)
   (repeat' first|(refine Ka ?_;first|refine Kb ?_|(refine Kc ?_;intro _))|refine Kd ?_|refine Kh ?_)
   refine Tri.dr (.take 0 (.take 1 (.take 2 (.take 3 (.take 4 (.take 5 (.all [(6,.all [(7,.take 8 (.take 9 (.take 10 (.take 11 (.done)))))])]))))))) ?_
   (repeat' first|(refine Ka ?_;first|refine Kb ?_|(refine Kc ?_;intro _))|refine Kd ?_|(refine Ki ?_;refine Kj ?_)|exact Kk|refine Kl ?_ ?_|(refine Km ?_;first|refine Kn ?_|(refine Ko ?_;intro _))|(refine Kp ?_;first|refine Kq ?_|refine Kr ?_)|refine Kh ?_)
   refine T1.callv rfl rfl rfl rfl rfl (sum_ok (x:=x) (y:=y) (by omega) (by omega)) ?_
   rintro _ _ ⟨p',cap2,rfl,rfl⟩
   (repeat' first|(refine Ka ?_;first|refine Kb ?_|(refine Kc ?_;intro _))|refine Kd ?_|(refine Ki ?_;refine Kj ?_)|exact Kk|refine Kl ?_ ?_|(refine Km ?_;first|refine Kn ?_|(refine Ko ?_;intro _))|(refine Kp ?_;first|refine Kq ?_|refine Kr ?_)|refine Kh ?_)
   refine Kw rfl rfl rfl rfl (write_ok ht (z:=x+y) (by omega)) ?_
   (repeat' first|(refine Ka ?_;first|refine Kb ?_|(refine Kc ?_;intro _))|refine Kd ?_|(refine Ki ?_;refine Kj ?_)|exact Kk|refine Kl ?_ ?_|(refine Km ?_;first|refine Kn ?_|(refine Ko ?_;intro _))|(refine Kp ?_;first|refine Kq ?_|refine Kr ?_)|refine Kh ?_)
   (refine Post.ra ?_)
   exact ⟨_,⟨rfl,rfl⟩,by (exact Ents.au)⟩
theorem add_ok (ht:Tab w0) {s t:List UInt8} (hs:s.length≤1000000000) (hl:t.length≤1000000000) :
  CallsS Tryz.prog w0 64 [.string ⟨s.toArray⟩,.string ⟨t.toArray⟩] As fun u Bs=>u=.tuple #[.string ⟨(addW s t).1.toArray⟩,.int .i64 (addW s t).2]∧Bs=As:=by
 refine CallsS.of_tri Tryz.func64 rfl Tryz.ntmps64 rfl ?_
 (repeat' first|(refine Ka ?_;first|refine Kb ?_|(refine Kc ?_;intro _))|refine Kd ?_|refine Kh ?_)
 refine Kt rfl rfl rfl (operate0_ok ht hs hl) ?_
 (repeat' first|(refine Ka ?_;first|refine Kb ?_|(refine Kc ?_;intro _))|refine Kd ?_|refine Kh ?_)
 (refine Post.ra ?_)
 exact ⟨_,⟨rfl,rfl⟩,by (exact Ents.au)⟩
theorem ofInt_ok (ht:Tab w0) {n:Int} (h0:-9223372036854775808≤n) (h1:n≤9223372036854775807):CallsS Tryz.prog w0 63 [.int .i64 n] As fun u Bs=>u=.string ⟨(textI n).toArray⟩∧Bs=As:=by
 refine CallsS.of_tri Tryz.func63 rfl Tryz.ntmps63 rfl ?_
 (repeat' first|(refine Ka ?_;first|refine Kb ?_|(refine Kc ?_;intro _))|refine Kd ?_|refine Kh ?_)
 refine Kt rfl rfl rfl (itoa_ok ht h0 h1) ?_
 (repeat' first|(refine Ka ?_;first|refine Kb ?_|(refine Kc ?_;intro _))|refine Kd ?_|refine Kh ?_)
 (refine Post.ra ?_)
 exact ⟨_,⟨rfl,rfl⟩,by (exact Ents.au)⟩
end Go.Proofs.YtkcnpgmgmgepoaaGreatDoor
