/- Walks: magnitudes of small numbers, products, a number by one group. -/
import Derived.Test.YtkcnpgmgmgepoaaGreatDoorWa5
import Derived.Test.YtkcnpgmgmgepoaaGreatDoorPl
import Derived.Test.YtkcnpgmgmgepoaaGreatDoorSxB
import Derived.Below
namespace Go.Proofs.YtkcnpgmgmgepoaaGreatDoor
open Go Go.Sx
variable {w0:World} {As:List Ent}
theorem fromSmall_ok {n:Nat} (hn:n≤18446744073709551615):CallsS Tryz.prog w0 363 [.int .u64 (n:Int)] As (MagR As n):=by
 refine magR_of ?_
 refine CallsS.of_tri Tryz.func363 rfl Tryz.ntmps363 rfl ?_
 (repeat' first|(refine Ka ?_;first|refine Kb ?_|(refine Kc ?_;intro _))|refine Kd ?_|refine Kh ?_)
 refine Tri.loop (ι:=Nat × Value × List Nat) (fun s=>s.1≤n∧s.2.2.length+(mag s.1).length≤(mag n).length∧s.2.2++mag s.1=mag n) (fun s=>s.1)
  (fun s=>[(0,.int .u64 (s.1:Int)),(3,s.2.1)]) (fun s=>.ow (cN .u32) 95 s.2.1 s.2.2::As) (n,.slice none 0 0,[]) ⟨Nat.le_refl _,by simp,rfl⟩ (by (exact Sub.au)) (Ents.nilW _) ?_
 rintro ⟨k,sv,xs⟩ ⟨hk,hl,hx⟩
 simp only at hk hl hx
 have hml:(mag n).length≤3:=mag_len_lt (by omega)
 show Tri _ _ _ _ [(0,.int .u64 (k:Int)),(3,sv)] (.ow (cN .u32) 95 sv xs::As) _
 (repeat' first|(refine Ka ?_;first|refine Kb ?_|(refine Kc ?_;intro _))|refine Kd ?_|refine Kh ?_)
 ((show Tri _ _ _ (.cond _ _ _) _ _ _;first|refine Tri.condP rfl (fun hc=>?_) (fun hc=>?_)|refine Tri.condN rfl (fun hc=>?_) (fun hc=>?_)))
 ·have hk0:k≠0:=by omega
  rw [mag_pos hk0] at hx hl
  (repeat' first|(refine Ka ?_;first|refine Kb ?_|(refine Kc ?_;intro _))|refine Kd ?_|refine Kh ?_)
  rename_i v9
  exact Post.round (k / 1000000000,v9,xs++[k % 1000000000]) ⟨by simp only;omega,by simp at hl ⊢;omega,by simpa using hx⟩ (by simp only;omega) (by (exact Sub.au)) (Ents.refl _)
 ·have hk0:k=0:=by omega
  subst hk0
  rw [mag_zero,List.append_nil] at hx
  subst hx
  (repeat' first|(refine Ka ?_;first|refine Kb ?_|(refine Kc ?_;intro _))|refine Kd ?_|refine Kh ?_)
  (refine Post.ra ?_)
  exact ⟨_,rfl,Ents.trans Ents.freeze (by (exact Ents.au))⟩
theorem small_ok {v:Value} {a:Nat} [hf:RdIn As v Nat (cN .u32) (mag a)] (ha:(mag a).length≤2):CallsS Tryz.prog w0 362 [v] As fun u Bs=>u=.int .u64 (a:Int)∧Bs=As:=by
 refine CallsS.of_tri Tryz.func362 rfl Tryz.ntmps362 rfl ?_
 (repeat' first|(refine Ka ?_;first|refine Kb ?_|(refine Kc ?_;intro _))|refine Kd ?_|refine Kh ?_)
 refine Tri.loop (ι:=Nat) (fun j=>j≤(mag a).length) (fun j=>j)
  (fun j=>[(0,v),(3,.int .u64 ((a / 1000000000 ^ j:Nat):Int)),(4,.int .i64 ((j:Int) - 1))]) (fun _=>As) (mag a).length (Nat.le_refl _) (by rw [Nat.div_eq_of_lt (mag_lt_pow a)];(exact Sub.au)) (by (exact Ents.au)) ?_
 intro j hj
 cases j with
 | zero =>
  rw [show ((0:Nat):Int) - 1=-1 from rfl]
  (repeat' first|(refine Ka ?_;first|refine Kb ?_|(refine Kc ?_;intro _))|refine Kd ?_|refine Kh ?_)
  (refine Post.ra ?_)
  exact ⟨_,⟨by simp,rfl⟩,by (exact Ents.au)⟩
 | succ j =>
  rw [show ((j+1:Nat):Int) - 1=(j:Int) by omega]
  obtain ⟨d,hd⟩:∃ d,(mag a)[j]?=some d:=⟨_,List.getElem?_eq_getElem (by omega)⟩
  obtain ⟨k1,k2,k3⟩:=mag_get hd
  have hlt:a < 1000000000 * 1000000000:=Nat.lt_of_lt_of_le (mag_lt_pow a) (Nat.le_trans (Nat.pow_le_pow_right (by omega) ha) (by decide))
  have hq:a / 1000000000 ^ (j+1) < 1000000000:=by
   rw [Nat.pow_succ,Nat.mul_comm,← Nat.div_div_eq_div_mul]
   exact Nat.lt_of_le_of_lt (Nat.div_le_self _ _) (by omega)
  (repeat' first|(refine Ka ?_;first|refine Kb ?_|(refine Kc ?_;intro _))|refine Kd ?_|refine Kh ?_)
  refine Post.round j (by omega) (by omega) ?_ (by (exact Ents.au))
  rw [show (((a / 1000000000 ^ j:Nat)):Int)=((a / 1000000000 ^ (j+1):Nat):Int) * 1000000000+(d:Int) by omega]
  (exact Sub.au)
theorem times_ok {v o:Value} {a b:Nat} [hf:RdIn As v Nat (cN .u32) (mag a)] [hg:RdIn As o Nat (cN .u32) (mag b)] (ha:(mag a).length≤100000000) (hb:(mag b).length≤100000000):CallsS Tryz.prog w0 304 [v,o] As (MagR As (a * b)):=by
 have hsa:=mag_small a
 have hsb:=mag_small b
 have hrl:(List.replicate ((mag a).length+(mag b).length) 0).length=(mag a).length+(mag b).length:=List.length_replicate
 refine CallsS.of_tri Tryz.func304 rfl Tryz.ntmps304 rfl ?_
 (repeat' first|(refine Ka ?_;first|refine Kb ?_|(refine Kc ?_;intro _))|refine Kd ?_|refine Kh ?_)
 rename_i sv
 refine Tri.loop (ι:=Nat × List Nat) (fun s=>s.1≤(mag a).length∧s.2.length=(mag a).length+(mag b).length∧(∀ x∈s.2,x < 1000000000)∧valB s.2=valB ((mag a).take s.1) * b) (fun s=>(mag a).length - s.1)
  (fun s=>[(1,o),(5,sv),(17,v),(18,.int .i64 (mag a).length),(19,.int .i64 (s.1:Int))]) (fun s=>.ow (cN .u32) 95 sv s.2::As)
  (0,List.replicate ((mag a).length+(mag b).length) 0) ⟨by omega,hrl,small_rep _,by simp [valB_replicate,valB]⟩ (by (exact Sub.au)) (by (exact Ents.au)) ?_
 rintro ⟨i,xs⟩ ⟨hi,hxl,hxs,hval⟩
 simp only at hi hxl hxs hval
 show Tri _ _ _ _ [(1,o),(5,sv),(17,v),(18,_),(19,.int .i64 (i:Int))] (.ow (cN .u32) 95 sv xs::As) _
 (repeat' first|(refine Ka ?_;first|refine Kb ?_|(refine Kc ?_;intro _))|refine Kd ?_|refine Kh ?_)
 ((show Tri _ _ _ (.cond _ _ _) _ _ _;first|refine Tri.condP rfl (fun hc=>?_) (fun hc=>?_)|refine Tri.condN rfl (fun hc=>?_) (fun hc=>?_)))
 ·obtain ⟨d,hd⟩:∃ d,(mag a)[i]?=some d:=⟨_,List.getElem?_eq_getElem (by omega)⟩
  have hd9:=hsa d (List.mem_of_getElem? hd)
  have hta:=valB_take hd
  have hbp:=mag_lt_pow b
  have hap:valB ((mag a).take i) < 1000000000 ^ i:=by
   have:=valB_lt (xs:=(mag a).take i) fun x hx=>hsa x (List.mem_of_mem_take hx)
   rwa [List.length_take,Nat.min_eq_left (by omega)] at this
  have hxz:xs[i+(mag b).length]?=some 0:=by
   obtain ⟨z,hz⟩:∃ z,xs[i+(mag b).length]?=some z:=⟨_,List.getElem?_eq_getElem (by omega)⟩
   rw [valB_get_zero (n:=i+(mag b).length) (by
        rw [hval,Nat.pow_add]
        rcases Nat.eq_zero_or_pos b with h0|h0
        ·rw [h0,Nat.mul_zero];exact Nat.mul_pos (Nat.pow_pos (by omega)) (Nat.pow_pos (by omega))
        ·exact Nat.lt_of_lt_of_le (Nat.mul_lt_mul_of_pos_right hap h0) (Nat.mul_le_mul_left _ (Nat.le_of_lt hbp))) (Nat.le_refl _) hz] at hz
   exact hz
  (repeat' first|(refine Ka ?_;first|refine Kb ?_|(refine Kc ?_;intro _))|refine Kd ?_|refine Kh ?_)
  refine Tri.loop (ι:=Nat × List Nat × Nat) (fun s=>s.1≤(mag b).length∧s.2.1.length=(mag a).length+(mag b).length∧(∀ x∈s.2.1,x < 1000000000)∧s.2.2 < 1000000000∧s.2.1[i+(mag b).length]?=some 0∧valB s.2.1+1000000000 ^ (i+s.1) * s.2.2=valB ((mag a).take i) * b+1000000000 ^ i * d * valB ((mag b).take s.1)) (fun s=>(mag b).length - s.1)
   (fun s=>[(1,o),(5,sv),(6,.int .i64 (i:Int)),(7,.int .u32 (d:Int)),(8,.int .u64 (s.2.2:Int)),(17,v),(18,.int .i64 (mag a).length),(19,.int .i64 (i:Int)),(24,o),(25,.int .i64 (mag b).length),(26,.int .i64 (s.1:Int))]) (fun s=>.ow (cN .u32) 95 sv s.2.1::As)
   (0,xs,0) ⟨by omega,hxl,hxs,by simp only;omega,hxz,by simp [valB,hval]⟩ (by (exact Sub.au)) (by (exact Ents.au)) ?_
  rintro ⟨j,ys,c⟩ ⟨hj,hyl,hys,hc9,hyz,hyv⟩
  simp only at hj hyl hys hc9 hyz hyv
  show Tri _ _ _ _ [(1,o),(5,sv),(6,.int .i64 (i:Int)),(7,.int .u32 (d:Int)),(8,.int .u64 (c:Int)),(17,v),(18,_),(19,.int .i64 (i:Int)),(24,o),(25,_),(26,.int .i64 (j:Int))] (.ow (cN .u32) 95 sv ys::As) _
  (repeat' first|(refine Ka ?_;first|refine Kb ?_|(refine Kc ?_;intro _))|refine Kd ?_|refine Kh ?_)
  ((show Tri _ _ _ (.cond _ _ _) _ _ _;first|refine Tri.condP rfl (fun hc=>?_) (fun hc=>?_)|refine Tri.condN rfl (fun hc=>?_) (fun hc=>?_)))
  ·obtain ⟨ee,he⟩:∃ ee,(mag b)[j]?=some ee:=⟨_,List.getElem?_eq_getElem (by omega)⟩
   have he9:=hsb ee (List.mem_of_getElem? he)
   have htb:=valB_take he
   obtain ⟨p,hp⟩:∃ p,ys[i+j]?=some p:=⟨_,List.getElem?_eq_getElem (by omega)⟩
   have hp9:=hys p (List.mem_of_getElem? hp)
   have hlim:=mul_lt_mulB hd9 he9 hc9 hp9
   have hij:((i:Int)+(j:Int))=((i+j:Nat):Int):=by omega
   have hde:(d:Int) * (ee:Int)=((d * ee:Nat):Int):=(Int.natCast_mul d ee).symm
   (repeat' first|(refine Ka ?_;first|refine Kb ?_|(refine Kc ?_;intro _))|refine Kd ?_|refine Kh ?_)
   refine Post.round (j+1,ys.set (i+j) ((c+(p+d * ee)) % 1000000000),(c+(p+d * ee)) / 1000000000) ⟨by simp only;omega,by simpa using hyl,small_set hys (by omega),by simp only;omega,?_,?_⟩ (by simp only;omega) (by (exact Sub.au)) (Ents.refl _)
   ·simp only
    rw [List.getElem?_set_ne (by omega)]
    exact hyz
   ·simp only
    have h1:=times_step (valB_set (g:=(c+(p+d * ee)) % 1000000000) hp) (show c+(p+d * ee)=c+p+d * ee by omega) hyv
    rw [show i+(j+1)=(i+j)+1 by omega,Nat.pow_succ,h1,htb,Nat.mul_add,Nat.pow_add,Nat.add_assoc]
    congr 2
    simp only [Nat.mul_assoc,Nat.mul_left_comm]
  ·have hje:j=(mag b).length:=by omega
   subst hje
   rw [valB_take_ge (Nat.le_refl _),valB_mag] at hyv
   (repeat' first|(refine Ka ?_;first|refine Kb ?_|(refine Kc ?_;intro _))|refine Kd ?_|refine Kh ?_)
   refine Post.round (i+1,ys.set (i+(mag b).length) c) ⟨by simp only;omega,by simpa using hyl,small_set hys hc9,?_⟩ (by simp only;omega) (by (exact Sub.au)) (by (exact Ents.au))
   simp only
   have h1:=valB_set (g:=c) hyz
   rw [hta,Nat.add_mul]
   omega
 ·have hie:i=(mag a).length:=by omega
  rw [valB_take_ge (by omega),valB_mag] at hval
  (repeat' first|(refine Ka ?_;first|refine Kb ?_|(refine Kc ?_;intro _))|refine Kd ?_|refine Kh ?_)
  refine TL.ents Ents.freeze ?_
  refine TL.call rfl rfl rfl (trim_ok hxs (by omega)) ?_
  rintro _ _ ⟨p,cap,rfl,rfl⟩
  rw [hval]
  (repeat' first|(refine Ka ?_;first|refine Kb ?_|(refine Kc ?_;intro _))|refine Kd ?_|refine Kh ?_)
  (refine Post.ra ?_)
  exact ⟨_,⟨p,cap,rfl,rfl⟩,by (exact Ents.au)⟩
def ShortR (As:List Ent) (q r:Nat) (u:Value) (Bs:List Ent):Prop:=∃ p cap,u=.tuple #[.slice p (mag q).length cap,.int .u32 (r:Int)]∧Bs=.ft (rd (cN .u32) (.slice p (mag q).length cap) (mag q))::As
theorem short_ok {v:Value} {a d:Nat} [hf:RdIn As v Nat (cN .u32) (mag a)] (ha:(mag a).length≤100000000) (hd0:0 < d) (hd9:d < 4294967296):CallsS Tryz.prog w0 376 [v,.int .u32 (d:Int)] As (ShortR As (a / d) (a % d)):=by
 have hsa:=mag_small a
 have hrl:(List.replicate (mag a).length 0).length=(mag a).length:=List.length_replicate
 refine CallsS.of_tri Tryz.func376 rfl Tryz.ntmps376 rfl ?_
 (repeat' first|(refine Ka ?_;first|refine Kb ?_|(refine Kc ?_;intro _))|refine Kd ?_|refine Kh ?_)
 rename_i sv
 refine Tri.loop (ι:=Nat × List Nat × Nat) (fun s=>s.1≤(mag a).length∧s.2.1.length=(mag a).length∧(∀ x∈s.2.1,x < 1000000000)∧s.2.2 < d∧valB (s.2.1.drop s.1) * d+s.2.2=valB ((mag a).drop s.1)) (fun s=>s.1)
  (fun s=>[(0,v),(1,.int .u32 (d:Int)),(6,sv),(7,.int .u64 (s.2.2:Int)),(8,.int .i64 ((s.1:Int) - 1))]) (fun s=>.ow (cN .u32) 95 sv s.2.1::As)
  ((mag a).length,List.replicate (mag a).length 0,0) ⟨Nat.le_refl _,hrl,small_rep _,hd0,by simp [valB]⟩ (by (exact Sub.au)) (by (exact Ents.au)) ?_
 rintro ⟨j,xs,r⟩ ⟨hj,hxl,hxs,hr,hval⟩
 simp only at hj hxl hxs hr hval
 cases j with
 | zero =>
  rw [List.drop_zero,List.drop_zero,valB_mag] at hval
  obtain ⟨e1,e2⟩:=div_mod_of hval hr
  show Tri _ _ _ _ [(0,v),(1,.int .u32 (d:Int)),(6,sv),(7,.int .u64 (r:Int)),(8,.int .i64 (((0:Nat):Int) - 1))] (.ow (cN .u32) 95 sv xs::As) _
  rw [show ((0:Nat):Int) - 1=-1 from rfl]
  (repeat' first|(refine Ka ?_;first|refine Kb ?_|(refine Kc ?_;intro _))|refine Kd ?_|refine Kh ?_)
  refine TL.ents Ents.freeze ?_
  refine TL.call rfl rfl rfl (trim_ok hxs (by omega)) ?_
  rintro _ _ ⟨p,cap,rfl,rfl⟩
  (repeat' first|(refine Ka ?_;first|refine Kb ?_|(refine Kc ?_;intro _))|refine Kd ?_|refine Kh ?_)
  (refine Post.ra ?_)
  rw [e1,e2]
  exact ⟨_,⟨p,cap,rfl,rfl⟩,by (exact Ents.au)⟩
 | succ j =>
  obtain ⟨g,hg⟩:∃ g,(mag a)[j]?=some g:=⟨_,List.getElem?_eq_getElem (by omega)⟩
  have hg9:=hsa g (List.mem_of_getElem? hg)
  have hq9:=short_lt hr hg9
  have hqr:(r * 1000000000+g) % d < d:=Nat.mod_lt _ hd0
  have hset:(xs.set j ((r * 1000000000+g) / d))[j]?=some ((r * 1000000000+g) / d):=by rw [List.getElem?_set,if_pos rfl,if_pos (by omega)]
  have hnew:valB ((xs.set j ((r * 1000000000+g) / d)).drop j) * d+(r * 1000000000+g) % d=valB ((mag a).drop j):=by
   rw [valB_drop hset,valB_drop hg,List.drop_set_of_lt (by omega)]
   exact short_step hval rfl
  have hqe:((r:Int) * 1000000000+g) / (d:Int)=(((r * 1000000000+g) / d:Nat):Int):=by rw [Int.natCast_ediv];rfl
  have hqz:0≤((r:Int) * 1000000000+g) / (d:Int)∧((r:Int) * 1000000000+g) / (d:Int) < 1000000000:=by
   rw [hqe];exact ⟨Int.natCast_nonneg _,Int.ofNat_lt.2 hq9⟩
  have hrz:0≤((r:Int) * 1000000000+g) % (d:Int)∧((r:Int) * 1000000000+g) % (d:Int) < d:=⟨Int.emod_nonneg _ (by omega),Int.emod_lt_of_pos _ (by omega)⟩
  show Tri _ _ _ _ [(0,v),(1,.int .u32 (d:Int)),(6,sv),(7,.int .u64 (r:Int)),(8,.int .i64 (((j+1:Nat):Int) - 1))] (.ow (cN .u32) 95 sv xs::As) _
  rw [show ((j+1:Nat):Int) - 1=(j:Int) by omega]
  (repeat' first|(refine Ka ?_;first|refine Kb ?_|(refine Kc ?_;intro _))|refine Kd ?_|refine Kh ?_)
  rw [hqe]
  (repeat' first|(refine Ka ?_;first|refine Kb ?_|(refine Kc ?_;intro _))|refine Kd ?_|refine Kh ?_)
  exact Post.round (j,xs.set j ((r * 1000000000+g) / d),(r * 1000000000+g) % d) ⟨by simp only;omega,by simpa using hxl,small_set hxs hq9,hqr,hnew⟩ (by simp only;omega) (by (exact Sub.au)) (Ents.refl _)
end Go.Proofs.YtkcnpgmgmgepoaaGreatDoor
namespace Go.Proofs.YtkcnpgmgmgepoaaGreatDoor
open Go Go.Sx
variable {w0:World} {As:List Ent}
def RedR (As:List Ent) (vu:Value) (us:List Nat) (lo b:Nat) (r:Value) (Bs:List Ent):Prop:=∃ us':List Nat,r=.int .u32 ((valB (us.drop lo) / b:Nat):Int)∧us'.length=us.length∧(∀ x∈us',x < 1000000000)∧valB (us'.drop lo)=valB (us.drop lo) % b∧us'.take lo=us.take lo∧Bs=.ow (cN .u32) 95 vu us'::As
set_option maxHeartbeats 1000000 in
theorem reduce_ok {vu v:Value} {us:List Nat} {b lo m:Nat} [hg:RdIn As v Nat (cN .u32) (mag b)] (hn:(mag b).length=m+2) (hl:lo+(mag b).length+1≤us.length) (hul:us.length≤1000000000) (hus:∀ x∈us,x < 1000000000) (hb:500000000 * 1000000000 ^ (m+1)≤b) (hW:valB (us.drop lo) < 1000000000 * b) :
  CallsS Tryz.prog w0 377 [subV 1 vu lo (lo+(mag b).length+1),v] (.ow (cN .u32) 95 vu us::As) (RedR As vu us lo b):=by
 have hsb:=mag_small b
 obtain ⟨u0,hu0⟩:∃ x,us[lo+(mag b).length]?=some x:=⟨_,List.getElem?_eq_getElem (by omega)⟩
 obtain ⟨u1,hu1⟩:∃ x,us[lo+((mag b).length - 1)]?=some x:=⟨_,List.getElem?_eq_getElem (by omega)⟩
 obtain ⟨u2,hu2⟩:∃ x,us[lo+((mag b).length - 2)]?=some x:=⟨_,List.getElem?_eq_getElem (by omega)⟩
 obtain ⟨v1,hv1⟩:∃ x,(mag b)[(mag b).length - 1]?=some x:=⟨_,List.getElem?_eq_getElem (by omega)⟩
 obtain ⟨v2,hv2⟩:∃ x,(mag b)[(mag b).length - 2]?=some x:=⟨_,List.getElem?_eq_getElem (by omega)⟩
 have hu09:=hus _ (List.mem_of_getElem? hu0)
 have hu19:=hus _ (List.mem_of_getElem? hu1)
 have hu29:=hus _ (List.mem_of_getElem? hu2)
 have hv19:=hsb _ (List.mem_of_getElem? hv1)
 have hv29:=hsb _ (List.mem_of_getElem? hv2)
 have hb0:0 < b:=Nat.lt_of_lt_of_le (Nat.mul_pos (by omega) (Nat.pow_pos (by omega))) hb
 have hbn:=mag_lt_pow b
 rw [hn] at hbn
 have hWn:valB (us.drop lo) < 1000000000 ^ (m+3):=by
  rw [Nat.pow_succ,Nat.mul_comm]
  exact Nat.lt_of_lt_of_le hW (Nat.mul_le_mul_left _ (Nat.le_of_lt hbn))
 have hhigh:=valB_high hWn
 -- the first groups
 have hV:b=(v1 * 1000000000+v2) * 1000000000 ^ m+valB ((mag b).take m):=by
  have:=two_groups (xs:=mag b) (k:=m) (by rw [← hv2];congr 1;omega) (by rw [← hv1];congr 1;omega) hn
  rwa [valB_mag] at this
 have hVl:valB ((mag b).take m) < 1000000000 ^ m:=by
  have:=valB_lt (xs:=(mag b).take m) fun x hx=>hsb x (List.mem_of_mem_take hx)
  rwa [List.length_take,Nat.min_eq_left (by omega)] at this
 have hWe:valB (us.drop lo)=((u0 * 1000000000+u1) * 1000000000+u2) * 1000000000 ^ m+valB ((us.drop lo).take m) :=
  three_groups (by rw [List.getElem?_drop,← hu2];congr 1;omega) (by rw [List.getElem?_drop,← hu1];congr 1;omega) (by rw [List.getElem?_drop,← hu0];congr 1;omega) hhigh
 have hWl:valB ((us.drop lo).take m) < 1000000000 ^ m:=by
  have:=valB_lt (xs:=(us.drop lo).take m) fun x hx=>hus x (List.mem_of_mem_drop (List.mem_of_mem_take hx))
  rwa [List.length_take,List.length_drop,Nat.min_eq_left (by omega)] at this
 have hK:0 < 1000000000 ^ m:=Nat.pow_pos (by omega)
 have hv1h:1000000000≤2 * v1:=by
  have h1:500000000 * 1000000000 * 1000000000 ^ m≤b:=by rw [Nat.pow_succ] at hb;rw [Nat.mul_assoc,Nat.mul_comm 1000000000];exact hb
  have h2:b < (v1 * 1000000000+1000000000) * 1000000000 ^ m:=by
   have:(v1 * 1000000000+v2+1) * 1000000000 ^ m≤(v1 * 1000000000+1000000000) * 1000000000 ^ m:=Nat.mul_le_mul_right _ (by omega)
   rw [Nat.add_mul _ 1,Nat.one_mul] at this
   omega
  have h3:=Nat.lt_of_mul_lt_mul_right (Nat.lt_of_le_of_lt h1 h2)
  omega
 obtain ⟨hd,hhd⟩:∃ h,h=u0 * 1000000000+u1:=⟨_,rfl⟩
 have hhz:((u0:Int) * 1000000000+u1)=(hd:Int):=by omega
 have hdl:hd < 1000000000000000000:=by omega
 rw [← hhd] at hWe
 generalize hWd:valB (us.drop lo)=W at hW hWn hWe
 refine CallsS.of_tri Tryz.func377 rfl Tryz.ntmps377 rfl ?_
 (repeat' first|(refine Ka ?_;first|refine Kb ?_|(refine Kc ?_;intro _))|refine Kd ?_|refine Kh ?_)
 refine Tri.dr (.take 0 (.take 1 (.take 2 (.take 3 (.take 4 (.take 5 (.take 6 (.take 7 (.take 8 (.take 9 (.take 10 (.take 11 (.take 12 (.take 13 (.done))))))))))))))) ?_
 (repeat' first|(refine Ka ?_;first|refine Kb ?_|(refine Kc ?_;intro _))|refine Kd ?_|(refine Ki ?_;refine Kj ?_)|exact Kk|refine Kl ?_ ?_|(refine Km ?_;first|refine Kn ?_|(refine Ko ?_;intro _))|(refine Kp ?_;first|refine Kq ?_|refine Kr ?_)|refine Kh ?_)
 rw [hhz]
 refine Tri.dr (.take 0 (.take 1 (.take 2 (.take 3 (.take 4 (.take 5 (.take 6 (.take 7 (.done))))))))) ?_
 (repeat' first|(refine Ka ?_;first|refine Kb ?_|(refine Kc ?_;intro _))|refine Kd ?_|(refine Ki ?_;refine Kj ?_)|exact Kk|refine Kl ?_ ?_|(refine Km ?_;first|refine Kn ?_|(refine Ko ?_;intro _))|(refine Kp ?_;first|refine Kq ?_|refine Kr ?_)|refine Kh ?_)
 have hq1:((hd:Int) / (v1:Int))=((hd / v1:Nat):Int):=(Int.natCast_ediv _ _).symm
 have hr1:((hd:Int) % (v1:Int))=((hd % v1:Nat):Int):=(Int.natCast_emod _ _).symm
 rw [hq1,hr1]
 have hv10:0 < v1:=by omega
 have hqt:W / b < 1000000000:=Nat.div_lt_of_lt_mul (by rw [Nat.mul_comm];exact hW)
 have hstop:∀ q r,q * v1+r=hd→q≤1000000000→1000000000≤r→q≤W / b:=fun q r h1 h2 h3=>red_stop (B:=1000000000) hb0 hV hVl hv29 hWe h1 h2 h3
 have hexit:∀ q r,q * v1+r=hd→q < 1000000000→q * v2≤r * 1000000000+u2→q≤W / b+1:=fun q r h1 h2 h3=>red_exit (B:=1000000000) hv10 hV hVl hWe h1 h2 h3
 have hdec:∀ q r,q * v1+r=hd→r * 1000000000+u2 < q * v2→W / b < q:=fun q r h1 h2=>red_dec (B:=1000000000) hV hWe hWl h1 h2
 have hini:W / b≤hd / v1:=red_init (B:=1000000000) hv10 hV hWe hWl hu29 (by omega)
 have hfst:hd / v1≤1000000000+1:=red_first (B:=1000000000) hhd.symm hu19 hv29 hVl hV hWe hW hv1h (by omega)
 have hsum:hd / v1 * v1+hd % v1=hd:=Nat.div_add_mod' hd v1
 have hrl:hd % v1 < v1:=Nat.mod_lt _ hv10
 generalize htq:W / b=tq at hqt hstop hexit hdec hini
 refine Tri.midB (fun e' As'=>∃ q,q < 1000000000∧tq≤q∧q≤tq+1∧e'=[(0,subV 1 vu lo (lo+(mag b).length+1)),(1,v),(5,.int .i64 (mag b).length),(8,.int .u64 (q:Int))]∧As'=.ow (cN .u32) 95 vu us::As) ?_ ?_
 ·refine Tri.loop (ι:=Nat × Nat) (fun s=>s.1 * v1+s.2=hd∧tq≤s.1∧s.1≤1000000001∧s.2 < 1000000000) (fun s=>s.1)
   (fun s=>[(0,subV 1 vu lo (lo+(mag b).length+1)),(1,v),(5,.int .i64 (mag b).length),(6,.int .u64 (v1:Int)),(8,.int .u64 (s.1:Int)),(9,.int .u64 (s.2:Int))]) (fun _=>.ow (cN .u32) 95 vu us::As)
   (hd / v1,hd % v1) ⟨hsum,hini,hfst,by simp only;omega⟩ (by (exact Sub.au)) (by (exact Ents.au)) ?_
  rintro ⟨q,r⟩ ⟨hqr,hqW,hqB,hrB⟩
  simp only at hqr hqW hqB hrB
  show Tri _ _ _ _ [(0,subV 1 vu lo (lo+(mag b).length+1)),(1,v),(5,.int .i64 (mag b).length),(6,.int .u64 (v1:Int)),(8,.int .u64 (q:Int)),(9,.int .u64 (r:Int))] (.ow (cN .u32) 95 vu us::As) _
  have hqv:q * v2≤1000000001 * 999999999:=Nat.mul_le_mul hqB (by omega)
  have hqvz:(q:Int) * (v2:Int)=((q * v2:Nat):Int):=(Int.natCast_mul _ _).symm
  have hnext:tq < q→∃ q',q=q'+1∧tq≤q'∧q' * v1+(r+v1)=hd:=fun h=>by
   obtain ⟨q',rfl⟩:∃ q',q=q'+1:=⟨q - 1,by omega⟩
   rw [Nat.add_mul,Nat.one_mul] at hqr
   exact ⟨q',rfl,by omega,by omega⟩
  (repeat' first|(refine Ka ?_;first|refine Kb ?_|(refine Kc ?_;intro _))|refine Kd ?_|refine Kh ?_)
  have hl2:(((mag b).length:Int) - 2)=(((mag b).length - 2:Nat):Int):=by omega
  by_cases hq0:(1000000000:Int)≤q
  ·obtain ⟨q',h1,h2,h3⟩:=hnext (by omega)
   subst h1
   refine Tri.dr (.take 0 (.take 1 (.take 2 (.take 3 (.take 4 (.take 5 (.take 6 (.take 7 (.take 8 (.take 9 (.take 10 (.take 11 (.take 12 (.take 13 (.take 14 (.take 15 (.take 16 (.take 17 (.take 18 (.take 19 (.take 20 (.take 21 (.done))))))))))))))))))))))) ?_
   (repeat' first|(refine Ka ?_;first|refine Kb ?_|(refine Kc ?_;intro _))|refine Kd ?_|(refine Ki ?_;refine Kj ?_)|exact Kk|refine Kl ?_ ?_|(refine Km ?_;first|refine Kn ?_|(refine Ko ?_;intro _))|(refine Kp ?_;first|refine Kq ?_|refine Kr ?_)|refine Kh ?_)
   ((show Tri _ _ _ (.cond _ _ _) _ _ _;first|refine Tri.condP rfl (fun hc=>?_) (fun hc=>?_)|refine Tri.condN rfl (fun hc=>?_) (fun hc=>?_)))
   ·(repeat' first|(refine Ka ?_;first|refine Kb ?_|(refine Kc ?_;intro _))|refine Kd ?_|(refine Ki ?_;refine Kj ?_)|exact Kk|refine Kl ?_ ?_|(refine Km ?_;first|refine Kn ?_|(refine Ko ?_;intro _))|(refine Kp ?_;first|refine Kq ?_|refine Kr ?_)|refine Kh ?_)
    have h6:=hstop q' (r+v1) h3 (by omega) (by omega)
    exact Post.cut _ _ ⟨q',by omega,h2,by omega,rfl,rfl⟩ (by (exact Sub.au)) (by (exact Ents.au))
   ·(repeat' first|(refine Ka ?_;first|refine Kb ?_|(refine Kc ?_;intro _))|refine Kd ?_|(refine Ki ?_;refine Kj ?_)|exact Kk|refine Kl ?_ ?_|(refine Km ?_;first|refine Kn ?_|(refine Ko ?_;intro _))|(refine Kp ?_;first|refine Kq ?_|refine Kr ?_)|refine Kh ?_)
    exact Post.round (q',r+v1) ⟨h3,h2,by simp only;omega,by simp only;omega⟩ (by simp only;omega) (by (exact Sub.au)) (by (exact Ents.au))
  ·by_cases hgt:(r:Int) * 1000000000+u2 < (q:Int) * v2
   ·obtain ⟨q',h1,h2,h3⟩:=hnext (hdec q r hqr (by omega))
    subst h1
    refine Tri.dr (.take 0 (.take 1 (.take 2 (.take 3 (.take 4 (.take 5 (.take 6 (.take 7 (.take 8 (.take 9 (.take 10 (.take 11 (.take 12 (.take 13 (.take 14 (.take 15 (.take 16 (.take 17 (.take 18 (.take 19 (.take 20 (.take 21 (.done))))))))))))))))))))))) ?_
    (repeat' first|(refine Ka ?_;first|refine Kb ?_|(refine Kc ?_;intro _))|refine Kd ?_|(refine Ki ?_;refine Kj ?_)|exact Kk|refine Kl ?_ ?_|(refine Km ?_;first|refine Kn ?_|(refine Ko ?_;intro _))|(refine Kp ?_;first|refine Kq ?_|refine Kr ?_)|refine Kh ?_)
    rw [hl2]
    (repeat' first|(refine Ka ?_;first|refine Kb ?_|(refine Kc ?_;intro _))|refine Kd ?_|(refine Ki ?_;refine Kj ?_)|exact Kk|refine Kl ?_ ?_|(refine Km ?_;first|refine Kn ?_|(refine Ko ?_;intro _))|(refine Kp ?_;first|refine Kq ?_|refine Kr ?_)|refine Kh ?_)
    rw [hl2]
    (repeat' first|(refine Ka ?_;first|refine Kb ?_|(refine Kc ?_;intro _))|refine Kd ?_|(refine Ki ?_;refine Kj ?_)|exact Kk|refine Kl ?_ ?_|(refine Km ?_;first|refine Kn ?_|(refine Ko ?_;intro _))|(refine Kp ?_;first|refine Kq ?_|refine Kr ?_)|refine Kh ?_)
    ((show Tri _ _ _ (.cond _ _ _) _ _ _;first|refine Tri.condP rfl (fun hc=>?_) (fun hc=>?_)|refine Tri.condN rfl (fun hc=>?_) (fun hc=>?_)))
    ·(repeat' first|(refine Ka ?_;first|refine Kb ?_|(refine Kc ?_;intro _))|refine Kd ?_|(refine Ki ?_;refine Kj ?_)|exact Kk|refine Kl ?_ ?_|(refine Km ?_;first|refine Kn ?_|(refine Ko ?_;intro _))|(refine Kp ?_;first|refine Kq ?_|refine Kr ?_)|refine Kh ?_)
     have h6:=hstop q' (r+v1) h3 (by omega) (by omega)
     exact Post.cut _ _ ⟨q',by omega,h2,by omega,rfl,rfl⟩ (by (exact Sub.au)) (by (exact Ents.au))
    ·(repeat' first|(refine Ka ?_;first|refine Kb ?_|(refine Kc ?_;intro _))|refine Kd ?_|(refine Ki ?_;refine Kj ?_)|exact Kk|refine Kl ?_ ?_|(refine Km ?_;first|refine Kn ?_|(refine Ko ?_;intro _))|(refine Kp ?_;first|refine Kq ?_|refine Kr ?_)|refine Kh ?_)
     exact Post.round (q',r+v1) ⟨h3,h2,by simp only;omega,by simp only;omega⟩ (by simp only;omega) (by (exact Sub.au)) (by (exact Ents.au))
   ·refine Tri.dr (.take 0 (.take 1 (.take 2 (.take 3 (.take 4 (.take 5 (.take 6 (.take 7 (.take 8 (.take 9 (.take 10 (.take 11 (.take 12 (.take 13 (.take 14 (.take 15 (.take 16 (.take 17 (.take 18 (.take 19 (.take 20 (.take 21 (.done))))))))))))))))))))))) ?_
    (repeat' first|(refine Ka ?_;first|refine Kb ?_|(refine Kc ?_;intro _))|refine Kd ?_|(refine Ki ?_;refine Kj ?_)|exact Kk|refine Kl ?_ ?_|(refine Km ?_;first|refine Kn ?_|(refine Ko ?_;intro _))|(refine Kp ?_;first|refine Kq ?_|refine Kr ?_)|refine Kh ?_)
    rw [hl2]
    (repeat' first|(refine Ka ?_;first|refine Kb ?_|(refine Kc ?_;intro _))|refine Kd ?_|(refine Ki ?_;refine Kj ?_)|exact Kk|refine Kl ?_ ?_|(refine Km ?_;first|refine Kn ?_|(refine Ko ?_;intro _))|(refine Kp ?_;first|refine Kq ?_|refine Kr ?_)|refine Kh ?_)
    rw [hl2]
    (repeat' first|(refine Ka ?_;first|refine Kb ?_|(refine Kc ?_;intro _))|refine Kd ?_|(refine Ki ?_;refine Kj ?_)|exact Kk|refine Kl ?_ ?_|(refine Km ?_;first|refine Kn ?_|(refine Ko ?_;intro _))|(refine Kp ?_;first|refine Kq ?_|refine Kr ?_)|refine Kh ?_)
    exact Post.cut _ _ ⟨q,by omega,hqW,hexit q r hqr (by omega) (by omega),rfl,rfl⟩ (by (exact Sub.au)) (by (exact Ents.au))
 rintro _ _ ⟨q,hqB,hqW,hq1,rfl,hBs⟩
 subst hBs
 clear hini hfst hsum hrl hdec hexit hstop
 (repeat' first|(refine Ka ?_;first|refine Kb ?_|(refine Kc ?_;intro _))|refine Kd ?_|refine Kh ?_)
 refine Tri.loop (ι:=Nat × List Nat × Nat × Nat) (fun s=>s.1≤(mag b).length∧s.2.1.length=us.length∧(∀ x∈s.2.1,x < 1000000000)∧s.2.2.1 < 1000000000∧s.2.2.2≤1∧s.2.1.drop (lo+s.1)=us.drop (lo+s.1)∧s.2.1.take lo=us.take lo∧valB (s.2.1.drop lo)+q * valB ((mag b).take s.1)=W+1000000000 ^ s.1 * (s.2.2.1+s.2.2.2)) (fun s=>(mag b).length - s.1)
  (fun s=>[(0,subV 1 vu lo (lo+(mag b).length+1)),(1,v),(5,.int .i64 (mag b).length),(8,.int .u64 (q:Int)),(10,.int .u64 (s.2.2.1:Int)),(11,.int .i64 (s.2.2.2:Int)),(75,v),(76,.int .i64 (mag b).length),(77,.int .i64 (s.1:Int))]) (fun s=>.ow (cN .u32) 95 vu s.2.1::As)
  (0,us,0,0) ⟨by omega,rfl,hus,by simp only;omega,by simp only;omega,rfl,rfl,by simp [valB,hWd]⟩ (by (exact Sub.au)) (by (exact Ents.au)) ?_
 rintro ⟨i,xs,c,bo⟩ ⟨hi,hxl,hxs,hc9,hbo,hxd,hxt,hval⟩
 simp only at hi hxl hxs hc9 hbo hxd hxt hval
 show Tri _ _ _ _ [(0,subV 1 vu lo (lo+(mag b).length+1)),(1,v),(5,.int .i64 (mag b).length),(8,.int .u64 (q:Int)),(10,.int .u64 (c:Int)),(11,.int .i64 (bo:Int)),(75,v),(76,_),(77,.int .i64 (i:Int))] (.ow (cN .u32) 95 vu xs::As) _
 (repeat' first|(refine Ka ?_;first|refine Kb ?_|(refine Kc ?_;intro _))|refine Kd ?_|refine Kh ?_)
 ((show Tri _ _ _ (.cond _ _ _) _ _ _;first|refine Tri.condP rfl (fun hc=>?_) (fun hc=>?_)|refine Tri.condN rfl (fun hc=>?_) (fun hc=>?_)))
 ·obtain ⟨d,hd'⟩:∃ d,(mag b)[i]?=some d:=⟨_,List.getElem?_eq_getElem (by omega)⟩
  have hd9:=hsb d (List.mem_of_getElem? hd')
  have htb:=valB_take hd'
  obtain ⟨p,hp⟩:∃ p,xs[lo+i]?=some p:=⟨_,List.getElem?_eq_getElem (by omega)⟩
  have hp9:=hxs p (List.mem_of_getElem? hp)
  have hqd:q * d≤999999999 * 999999999:=Nat.mul_le_mul (by omega) (by omega)
  obtain ⟨t,ht⟩:∃ t,t=c+q * d:=⟨_,rfl⟩
  have htz:(c:Int)+(q:Int) * (d:Int)=(t:Int):=by rw [ht,Int.natCast_add,Int.natCast_mul]
  have hnew:∀ g b',g+t % 1000000000+bo=p+1000000000 * b'→valB ((xs.set (lo+i) g).drop lo)+q * valB ((mag b).take (i+1))=W+1000000000 ^ (i+1) * (t / 1000000000+b'):=fun g b' h=>by
   rw [htb,Nat.mul_add,Nat.mul_left_comm,Nat.pow_succ,ht]
   exact take_step (valB_set_at hp) hval (by rw [← ht];exact h)
  have hxd':∀ g,(xs.set (lo+i) g).drop (lo+(i+1))=us.drop (lo+(i+1)):=fun g=>by
   rw [List.drop_set_of_lt (by omega),show lo+(i+1)=(lo+i)+1 by omega,← List.drop_drop,hxd,List.drop_drop]
  have hxt':∀ g,(xs.set (lo+i) g).take lo=us.take lo:=fun g=>by rw [List.take_set_of_le (by omega),hxt]
  (repeat' first|(refine Ka ?_;first|refine Kb ?_|(refine Kc ?_;intro _))|refine Kd ?_|refine Kh ?_)
  rw [htz]
  (repeat' first|(refine Ka ?_;first|refine Kb ?_|(refine Kc ?_;intro _))|refine Kd ?_|refine Kh ?_)
  ((show Tri _ _ _ (.cond _ _ _) _ _ _;first|refine Tri.condP rfl (fun hc=>?_) (fun hc=>?_)|refine Tri.condN rfl (fun hc=>?_) (fun hc=>?_)))
  ·have e9:((p:Int) - bo - (t:Int) % 1000000000+1000000000)=((p+1000000000 - bo - t % 1000000000:Nat):Int):=by omega
   (repeat' first|(refine Ka ?_;first|refine Kb ?_|(refine Kc ?_;intro _))|refine Kd ?_|refine Kh ?_)
   rw [e9]
   (repeat' first|(refine Ka ?_;first|refine Kb ?_|(refine Kc ?_;intro _))|refine Kd ?_|refine Kh ?_)
   exact Post.round (i+1,xs.set (lo+i) (p+1000000000 - bo - t % 1000000000),t / 1000000000,1) ⟨by simp only;omega,by simpa using hxl,small_set hxs (by omega),by simp only;omega,Nat.le_refl 1,hxd' _,hxt' _,hnew _ 1 (by omega)⟩ (by simp only;omega) (by (exact Sub.au)) (by (exact Ents.au))
  ·have e9:((p:Int) - bo - (t:Int) % 1000000000)=((p - bo - t % 1000000000:Nat):Int):=by omega
   (repeat' first|(refine Ka ?_;first|refine Kb ?_|(refine Kc ?_;intro _))|refine Kd ?_|refine Kh ?_)
   rw [e9]
   (repeat' first|(refine Ka ?_;first|refine Kb ?_|(refine Kc ?_;intro _))|refine Kd ?_|refine Kh ?_)
   exact Post.round (i+1,xs.set (lo+i) (p - bo - t % 1000000000),t / 1000000000,0) ⟨by simp only;omega,by simpa using hxl,small_set hxs (by omega),by simp only;omega,Nat.zero_le 1,hxd' _,hxt' _,hnew _ 0 (by omega)⟩ (by simp only;omega) (by (exact Sub.au)) (by (exact Ents.au))
 have hie:i=(mag b).length:=by omega
 subst hie
 rw [valB_take_ge (Nat.le_refl _),valB_mag] at hval
 have hat:∀ ys:List Nat,ys.drop (lo+(mag b).length)=us.drop (lo+(mag b).length)→ys[lo+(mag b).length]?=some u0∧valB (ys.drop lo)=valB ((ys.drop lo).take (mag b).length)+1000000000 ^ (mag b).length * u0:=fun ys h=>by
  have h1:ys[lo+(mag b).length]?=some u0:=by
   rw [← hu0]
   have h2:=congrArg (fun l:List Nat=>l[0]?) h
   simpa [List.getElem?_drop] using h2
  refine ⟨h1,one_group (by rw [List.getElem?_drop];exact h1) ?_⟩
  rw [List.drop_drop,show lo+((mag b).length+1)=(lo+(mag b).length)+1 by omega,← List.drop_drop,h,List.drop_drop]
  rw [List.drop_drop] at hhigh
  rw [show lo+(mag b).length+1=lo+(m+3) by omega]
  exact hhigh
 have hlow:∀ ys:List Nat,ys.length=us.length→(∀ x∈ys,x < 1000000000)→valB ((ys.drop lo).take (mag b).length) < 1000000000 ^ (mag b).length:=fun ys h1 h2=>by
  have:=valB_lt (xs:=(ys.drop lo).take (mag b).length) fun x hx=>h2 x (List.mem_of_mem_drop (List.mem_of_mem_take hx))
  rwa [List.length_take,List.length_drop,Nat.min_eq_left (by omega)] at this
 obtain ⟨hx0,hxv⟩:=hat xs hxd
 have hxL:=hlow xs hxl hxs
 have hbP:b < 1000000000 ^ (mag b).length:=mag_lt_pow b
 have hzero:∀ ys:List Nat,ys[lo+(mag b).length]?=some u0→valB (ys.drop lo)=valB ((ys.drop lo).take (mag b).length)+1000000000 ^ (mag b).length * u0→valB ((ys.set (lo+(mag b).length) 0).drop lo)=valB ((ys.drop lo).take (mag b).length):=fun ys h1 h2=>by
  have:=valB_set_at (lo:=lo) (i:=(mag b).length) (g:=0) h1
  omega
 rw [hxv] at hval
 (repeat' first|(refine Ka ?_;first|refine Kb ?_|(refine Kc ?_;intro _))|refine Kd ?_|refine Kh ?_)
 ((show Tri _ _ _ (.cond _ _ _) _ _ _;first|refine Tri.condP rfl (fun hc=>?_) (fun hc=>?_)|refine Tri.condN rfl (fun hc=>?_) (fun hc=>?_)))
 ·have hq0:0 < q:=by
   rcases Nat.eq_zero_or_pos q with h|h
   ·exfalso
    subst h
    have:=Nat.mul_le_mul_left (1000000000 ^ (mag b).length) (show u0+1≤c+bo by omega)
    rw [Nat.mul_add,Nat.mul_one] at this
    omega
   ·exact h
  (repeat' first|(refine Ka ?_;first|refine Kb ?_|(refine Kc ?_;intro _))|refine Kd ?_|refine Kh ?_)
  refine Tri.loop (ι:=Nat × List Nat × Nat) (fun s=>s.1≤(mag b).length∧s.2.1.length=us.length∧(∀ x∈s.2.1,x < 1000000000)∧s.2.2≤1∧s.2.1.drop (lo+(mag b).length)=us.drop (lo+(mag b).length)∧s.2.1.take lo=us.take lo∧valB (s.2.1.drop lo)+1000000000 ^ s.1 * s.2.2=valB (xs.drop lo)+valB ((mag b).take s.1)) (fun s=>(mag b).length - s.1)
   (fun s=>[(0,subV 1 vu lo (lo+(mag b).length+1)),(5,.int .i64 (mag b).length),(8,.int .u64 ((q - 1:Nat):Int)),(15,.int .u32 (s.2.2:Int)),(123,v),(124,.int .i64 (mag b).length),(125,.int .i64 (s.1:Int))]) (fun s=>.ow (cN .u32) 95 vu s.2.1::As)
   (0,xs,0) ⟨by simp only;omega,hxl,hxs,by simp only;omega,hxd,hxt,by simp [valB]⟩ (by (exact Sub.au)) (by (exact Ents.au)) ?_
  rintro ⟨i,ys,o⟩ ⟨hi,hyl,hys,ho,hyd,hyt,hyv⟩
  simp only at hi hyl hys ho hyd hyt hyv
  show Tri _ _ _ _ [(0,subV 1 vu lo (lo+(mag b).length+1)),(5,.int .i64 (mag b).length),(8,.int .u64 ((q - 1:Nat):Int)),(15,.int .u32 (o:Int)),(123,v),(124,_),(125,.int .i64 (i:Int))] (.ow (cN .u32) 95 vu ys::As) _
  (repeat' first|(refine Ka ?_;first|refine Kb ?_|(refine Kc ?_;intro _))|refine Kd ?_|refine Kh ?_)
  ((show Tri _ _ _ (.cond _ _ _) _ _ _;first|refine Tri.condP rfl (fun hc=>?_) (fun hc=>?_)|refine Tri.condN rfl (fun hc=>?_) (fun hc=>?_)))
  ·obtain ⟨d,hd'⟩:∃ d,(mag b)[i]?=some d:=⟨_,List.getElem?_eq_getElem (by omega)⟩
   have hd9:=hsb d (List.mem_of_getElem? hd')
   have htb:=valB_take hd'
   obtain ⟨p,hp⟩:∃ p,ys[lo+i]?=some p:=⟨_,List.getElem?_eq_getElem (by omega)⟩
   have hp9:=hys p (List.mem_of_getElem? hp)
   have hnew:∀ g o',g+1000000000 * o'=p+d+o→valB ((ys.set (lo+i) g).drop lo)+1000000000 ^ (i+1) * o'=valB (xs.drop lo)+valB ((mag b).take (i+1)):=fun g o' h=>by
        rw [htb,Nat.pow_succ]
        exact back_step (valB_set_at hp) hyv h
   have hyd':∀ g,(ys.set (lo+i) g).drop (lo+(mag b).length)=us.drop (lo+(mag b).length):=fun g=>by rw [List.drop_set_of_lt (by omega),hyd]
   have hyt':∀ g,(ys.set (lo+i) g).take lo=us.take lo:=fun g=>by rw [List.take_set_of_le (by omega),hyt]
   (repeat' first|(refine Ka ?_;first|refine Kb ?_|(refine Kc ?_;intro _))|refine Kd ?_|refine Kh ?_)
   ((show Tri _ _ _ (.cond _ _ _) _ _ _;first|refine Tri.condP rfl (fun hc=>?_) (fun hc=>?_)|refine Tri.condN rfl (fun hc=>?_) (fun hc=>?_)))
   ·have e9:((p:Int)+d+o - 1000000000)=((p+d+o - 1000000000:Nat):Int):=by omega
    (repeat' first|(refine Ka ?_;first|refine Kb ?_|(refine Kc ?_;intro _))|refine Kd ?_|refine Kh ?_)
    rw [e9]
    (repeat' first|(refine Ka ?_;first|refine Kb ?_|(refine Kc ?_;intro _))|refine Kd ?_|refine Kh ?_)
    exact Post.round (i+1,ys.set (lo+i) (p+d+o - 1000000000),1) ⟨by simp only;omega,by simpa using hyl,small_set hys (by omega),Nat.le_refl 1,hyd' _,hyt' _,hnew _ 1 (by omega)⟩ (by simp only;omega) (by (exact Sub.au)) (by (exact Ents.au))
   ·have e9:((p:Int)+d+o)=((p+d+o:Nat):Int):=by omega
    rw [e9]
    (repeat' first|(refine Ka ?_;first|refine Kb ?_|(refine Kc ?_;intro _))|refine Kd ?_|refine Kh ?_)
    exact Post.round (i+1,ys.set (lo+i) (p+d+o),0) ⟨by simp only;omega,by simpa using hyl,small_set hys (by omega),Nat.zero_le 1,hyd' _,hyt' _,hnew _ 0 (by omega)⟩ (by simp only;omega) (by (exact Sub.au)) (by (exact Ents.au))
  ·have hie:i=(mag b).length:=by omega
   subst hie
   obtain ⟨hy0,hyw⟩:=hat ys hyd
   rw [valB_take_ge (Nat.le_refl _),valB_mag,hyw,hxv] at hyv
   obtain ⟨k1,k2⟩:=red_over (o:=o) hxL hbP hval (by omega) (by rw [htq];exact hq1) hb0 (by omega) (hlow ys hyl hys)
   (repeat' first|(refine Ka ?_;first|refine Kb ?_|(refine Kc ?_;intro _))|refine Kd ?_|refine Kh ?_)
   (refine Post.ra ?_)
   refine ⟨_,⟨ys.set (lo+(mag b).length) 0,?_,by simpa using hyl,small_set hys (by omega),?_,by rw [List.take_set_of_le (by omega),hyt],rfl⟩,by (exact Ents.au)⟩
   ·rw [hWd,k1];rfl
   ·rw [hzero ys hy0 hyw,k2,hWd]
 ·(repeat' first|(refine Ka ?_;first|refine Kb ?_|(refine Kc ?_;intro _))|refine Kd ?_|refine Kh ?_)
  obtain ⟨k1,k2⟩:=red_right hxL hbP hval (by omega) (by rw [htq];exact hqW) hb0
  (refine Post.ra ?_)
  refine ⟨_,⟨xs.set (lo+(mag b).length) 0,?_,by simpa using hxl,small_set hxs (by omega),?_,by rw [List.take_set_of_le (by omega),hxt],rfl⟩,by (exact Ents.au)⟩
  ·rw [hWd,k1]
  ·rw [hzero xs hx0 hxv,k2,hWd]
end Go.Proofs.YtkcnpgmgmgepoaaGreatDoor
namespace Go.Proofs.YtkcnpgmgmgepoaaGreatDoor
open Go Go.Sx
variable {w0:World} {As:List Ent}
def DivR (As:List Ent) (q r:Nat) (u:Value) (Bs:List Ent):Prop:=∃ p cap p' cap',u=.tuple #[.slice p (mag q).length cap,.slice p' (mag r).length cap']∧Bs=.ft (rd (cN .u32) (.slice p (mag q).length cap) (mag q))::.ft (rd (cN .u32) (.slice p' (mag r).length cap') (mag r))::As
theorem mag_one {b:Nat} (h:(mag b).length=1):b < 1000000000∧(mag b)[0]?=some b:=by
 have h1:=mag_lt_pow b
 rw [h,Nat.pow_one] at h1
 refine ⟨h1,?_⟩
 have hb:b≠0:=fun h0=>by rw [h0,mag_zero] at h;cases h
 rw [mag_pos hb,List.getElem?_cons_zero,Nat.mod_eq_of_lt h1]
theorem mag_single {s:Nat} (h0:0 < s) (h:s < 1000000000):mag s=[s]:=by
 rw [mag_pos (by omega),Nat.mod_eq_of_lt h,Nat.div_eq_of_lt h,mag_zero]
theorem divide_ok {v o:Value} {a b:Nat} [hf:FtIn As v Nat (cN .u32) (mag a)] [hg:RdIn As o Nat (cN .u32) (mag b)] (hb0:b≠0) (ha:(mag a).length≤10000000) (hbl:(mag b).length≤100000000):CallsS Tryz.prog w0 364 [v,o] As (DivR As (a / b) (a % b)):=by
 refine CallsS.rdSl v fun pv cv hv=>?_
 have hsa:=mag_small a
 have hsb:=mag_small b
 by_cases hlt:a < b
 ·rw [Nat.div_eq_of_lt hlt,Nat.mod_eq_of_lt hlt]
  subst hv
  have hla:=mag_len_le (Nat.le_of_lt hlt)
  refine CallsS.of_tri Tryz.func364 rfl Tryz.ntmps364 rfl ?_
  (repeat' first|(refine Ka ?_;first|refine Kb ?_|(refine Kc ?_;intro _))|refine Kd ?_|refine Kh ?_)
  refine Kt rfl rfl rfl (compare_ok (a:=a) (b:=b) (by omega) hbl) ?_
  have hcmp:Lib.compareInt a b < 0:=cmp_lt.2 hlt
  (repeat' first|(refine Ka ?_;first|refine Kb ?_|(refine Kc ?_;intro _))|refine Kd ?_|refine Kh ?_)
  (refine Post.ra ?_)
  exact ⟨_,⟨none,0,pv,cv,by rw [mag_zero];rfl,rfl⟩,by rw [mag_zero];exact Ents.trans Ents.dup (Ents.trans (Ents.nilW (T:=95) (cN .u32)) Ents.freeze)⟩
 have hba:b≤a:=by omega
 have hlb:=mag_len_le hba
 have hbl0:(mag b).length≠0:=fun h=>hb0 (mag_len0.1 h)
 refine CallsS.of_tri Tryz.func364 rfl Tryz.ntmps364 rfl ?_
 (repeat' first|(refine Ka ?_;first|refine Kb ?_|(refine Kc ?_;intro _))|refine Kd ?_|refine Kh ?_)
 refine TL.call rfl rfl rfl (compare_ok (a:=a) (b:=b) (by omega) (by omega)) ?_
 rintro _ As ⟨rfl,rfl⟩
 have hcmp:¬ Lib.compareInt a b < 0:=fun h=>hlt (cmp_lt.1 h)
 (repeat' first|(refine Ka ?_;first|refine Kb ?_|(refine Kc ?_;intro _))|refine Kd ?_|refine Kh ?_)
 by_cases h1:(mag b).length=1
 ·obtain ⟨hb9,hbg⟩:=mag_one h1
  (repeat' first|(refine Ka ?_;first|refine Kb ?_|(refine Kc ?_;intro _))|refine Kd ?_|refine Kh ?_)
  refine TL.call rfl rfl rfl (short_ok (a:=a) (d:=b) (by omega) (by omega) (by omega)) ?_
  rintro _ _ ⟨p,cap,rfl,rfl⟩
  have hr9:a % b < b:=Nat.mod_lt _ (by omega)
  (repeat' first|(refine Ka ?_;first|refine Kb ?_|(refine Kc ?_;intro _))|refine Kd ?_|refine Kh ?_)
  refine TL.call rfl rfl rfl (fromSmall_ok (n:=a % b) (by omega)) ?_
  rintro _ _ ⟨p',cap',rfl,rfl⟩
  (repeat' first|(refine Ka ?_;first|refine Kb ?_|(refine Kc ?_;intro _))|refine Kd ?_|refine Kh ?_)
  (refine Post.ra ?_)
  exact ⟨_,⟨p,cap,p',cap',rfl,rfl⟩,by (exact Ents.au)⟩
 obtain ⟨m,hm⟩:∃ m,(mag b).length=m+2:=⟨(mag b).length - 2,by omega⟩
 obtain ⟨t,ht⟩:∃ t,(mag b)[(mag b).length - 1]?=some t:=⟨_,List.getElem?_eq_getElem (by omega)⟩
 obtain ⟨g1,g2,g3⟩:=mag_get ht
 have hlast:b / 1000000000 ^ ((mag b).length - 1+1)=0:=by
  rw [show (mag b).length - 1+1=(mag b).length by omega]
  exact Nat.div_eq_of_lt (mag_lt_pow b)
 rw [hlast,Nat.mul_zero,Nat.add_zero,show (mag b).length - 1=m+1 by omega] at g1
 rw [show (mag b).length - 1=m+1 by omega,g1] at g2
 have hP:0 < 1000000000 ^ (m+1):=Nat.pow_pos (by omega)
 have hlo:t * 1000000000 ^ (m+1)≤b:=by rw [← g1];exact Nat.div_mul_le_self _ _
 have hhi:b < (t+1) * 1000000000 ^ (m+1):=by rw [← g1,Nat.mul_comm];exact Nat.lt_mul_div_succ b hP
 obtain ⟨hs1,hs2⟩:=scale_all (by omega) g3 hlo hhi
 obtain ⟨_,_,hs3⟩:=scale_half (by omega) g3
 have hs9:1000000000 / (t+1) < 1000000000:=by
  rw [Nat.div_lt_iff_lt_mul (by omega)];omega
 have hqz:(1000000000:Int) / ((t:Int)+1)=((1000000000 / (t+1):Nat):Int):=by rw [Int.natCast_ediv];rfl
 (repeat' first|(refine Ka ?_;first|refine Kb ?_|(refine Kc ?_;intro _))|refine Kd ?_|refine Kh ?_)
 rw [hqz]
 generalize 1000000000 / (t+1)=s at hs1 hs2 hs3 hs9 hqz ⊢
 have hmag1:=mag_single hs3 hs9
 have hVl:(mag (b * s)).length=m+2:=by
  have e1:=mag_len_lt hs2
  have e2:=mag_len_le (show b≤b * s from Nat.le_mul_of_pos_right _ hs3)
  omega
 have hUl:(mag (a * s)).length≤(mag a).length+1:=by
  have:=mag_len_mul a s
  rw [hmag1] at this
  simpa using this
 have hV0:0 < b * s:=Nat.mul_pos (by omega) hs3
 have hfl:∀ {x:Nat},x=s→[Value.int .u32 (x:Int)]=(cN .u32).flat (mag s):=fun h=>by rw [hmag1,h];rfl
 (repeat' first|(refine Ka ?_;first|refine Kb ?_|(refine Kc ?_;intro _))|refine Kd ?_|refine Kh ?_)
 refine TL.ents (Ents.clW (cN .u32) (mag s) (hfl rfl) (by rw [hmag1]) (by rw [hmag1])) ?_
 refine TL.call rfl rfl rfl (times_ok (a:=b) (b:=s) (by omega) (by rw [hmag1];simp)) ?_
 rintro _ _ ⟨pV,cV,rfl,rfl⟩
 have hl1:(((mag a).length:Int)+1)=(((mag a).length+1:Nat):Int):=by omega
 (repeat' first|(refine Ka ?_;first|refine Kb ?_|(refine Kc ?_;intro _))|refine Kd ?_|refine Kh ?_)
 rw [hl1]
 (repeat' first|(refine Ka ?_;first|refine Kb ?_|(refine Kc ?_;intro _))|refine Kd ?_|refine Kh ?_)
 rename_i uv _
 refine TL.ents (Ents.clW (cN .u32) (mag s) (hfl rfl) (by rw [hmag1]) (by rw [hmag1])) ?_
 refine TL.call rfl rfl rfl (times_ok (a:=a) (b:=s) (by omega) (by rw [hmag1];simp)) ?_
 rintro _ _ ⟨pU,cU,rfl,rfl⟩
 have hU0:(mag (a * s)).length≤(List.replicate ((mag a).length+1) 0).length:=by rw [List.length_replicate];exact hUl
 refine TL.rr rfl rfl (ExR.copyW (c:=cN .u32) rfl rfl rfl hU0) ?_
 rintro _ _ ⟨rfl,rfl⟩
 obtain ⟨us0,hus0⟩:∃ us0,us0=mag (a * s)++(List.replicate ((mag a).length+1) 0).drop (mag (a * s)).length:=⟨_,rfl⟩
 rw [← hus0]
 have husl:us0.length=(mag a).length+1:=by rw [hus0];simp;omega
 have husv:valB us0=a * s:=by rw [hus0,List.drop_replicate,valB_append,valB_replicate,valB_mag];omega
 have huss:∀ x∈us0,x < 1000000000:=fun x hx=>by
  rw [hus0,List.drop_replicate] at hx
  rcases List.mem_append.1 hx with h|h
  ·exact mag_small _ x h
  ·exact small_rep _ x h
 clear hus0
 have hl2:(((mag a).length:Int) - (mag (b * s)).length+1)=(((mag a).length - (mag (b * s)).length+1:Nat):Int):=by omega
 (repeat' first|(refine Ka ?_;first|refine Kb ?_|(refine Kc ?_;intro _))|refine Kd ?_|refine Kh ?_)
 rw [hl2]
 (repeat' first|(refine Ka ?_;first|refine Kb ?_|(refine Kc ?_;intro _))|refine Kd ?_|refine Kh ?_)
 rename_i qv
 have hVb:1000000000 ^ ((mag (b * s)).length - 1)≤b * s:=pow_le_mag (by omega)
 have hUV:a * s < 1000000000 ^ ((mag a).length - (mag (b * s)).length+1) * (b * s):=by
  have e1:=mag_lt_pow a
  have e2:a * s < 1000000000 ^ (mag a).length * s:=Nat.mul_lt_mul_of_pos_right e1 hs3
  have e3:1000000000 ^ (m+1)≤b:=by
   have:=Nat.mul_le_mul_right (1000000000 ^ (m+1)) (show 1≤t by omega)
   omega
  refine Nat.lt_of_lt_of_le e2 ?_
  rw [hVl,show (mag a).length=((mag a).length - (m+2)+1)+(m+1) by omega,Nat.pow_add,show ((mag a).length - (m+2)+1)+(m+1) - (m+2)+1=(mag a).length - (m+2)+1 by omega,Nat.mul_assoc]
  exact Nat.mul_le_mul_left _ (Nat.mul_le_mul_right _ e3)
 have hqr:(List.replicate ((mag a).length - (mag (b * s)).length+1) 0).length=(mag a).length - (mag (b * s)).length+1:=List.length_replicate
 have hdl:valB (us0.drop ((mag a).length - (mag (b * s)).length+1)) < b * s:=by
  have e1:=valB_take_le us0 ((mag a).length - (mag (b * s)).length+1)
  rw [List.length_take,Nat.min_eq_left (by omega),husv] at e1
  exact Nat.lt_of_mul_lt_mul_left (a:=1000000000 ^ ((mag a).length - (mag (b * s)).length+1)) (by omega)
 refine Tri.loop (ι:=Nat × List Nat × List Nat) (fun x=>x.1≤(mag a).length - (mag (b * s)).length+1∧x.2.1.length=(mag a).length - (mag (b * s)).length+1∧(∀ y∈x.2.1,y < 1000000000)∧x.2.2.length=(mag a).length+1∧(∀ y∈x.2.2,y < 1000000000)∧valB (x.2.2.drop x.1) < b * s∧valB x.2.2+1000000000 ^ x.1 * (b * s * valB (x.2.1.drop x.1))=a * s) (fun x=>x.1)
  (fun x=>[(4,qv),(8,.int .u32 (s:Int)),(9,.slice pV (mag (b * s)).length cV),(10,uv),(11,.int .i64 (mag (b * s)).length),(12,.int .i64 ((x.1:Int) - 1))])
  (fun x=>.ow (cN .u32) 95 qv x.2.1::.ow (cN .u32) 95 uv x.2.2::.ft (rd (cN .u32) (.slice pV (mag (b * s)).length cV) (mag (b * s)))::As)
  ((mag a).length - (mag (b * s)).length+1,List.replicate ((mag a).length - (mag (b * s)).length+1) 0,us0)
  ⟨Nat.le_refl _,hqr,small_rep _,husl,huss,hdl,by simp [valB,husv]⟩ (by rw [show (((mag a).length - (mag (b * s)).length+1:Nat):Int) - 1=((mag a).length:Int) - (mag (b * s)).length by omega];(exact Sub.au)) (by (exact Ents.au)) ?_
 rintro ⟨j,qs,us⟩ ⟨hj,hql,hqs,hul,hus,hlow,hval⟩
 simp only at hj hql hqs hul hus hlow hval
 cases j with
 | zero =>
  rw [List.drop_zero] at hlow hval
  rw [Nat.pow_zero,Nat.one_mul] at hval
  show Tri _ _ _ _ [(4,qv),(8,.int .u32 (s:Int)),(9,.slice pV (mag (b * s)).length cV),(10,uv),(11,.int .i64 (mag (b * s)).length),(12,.int .i64 (((0:Nat):Int) - 1))] (.ow (cN .u32) 95 qv qs::.ow (cN .u32) 95 uv us::.ft (rd (cN .u32) (.slice pV (mag (b * s)).length cV) (mag (b * s)))::As) _
  rw [show ((0:Nat):Int) - 1=-1 from rfl]
  obtain ⟨k1,k2⟩:=div_mod_of (a:=a * s) (d:=b * s) (q:=valB qs) (r:=valB us) (by rw [Nat.mul_comm (valB qs)];omega) hlow
  rw [Nat.mul_div_mul_right _ _ (by omega)] at k1
  rw [Nat.mul_mod_mul_right] at k2
  have hut:valB (us.take (mag (b * s)).length)=a % b * s:=by
   have e1:=valB_take_le us (mag (b * s)).length
   rw [valB_high (k:=(mag (b * s)).length) (Nat.lt_trans hlow (mag_lt_pow _)),Nat.mul_zero,Nat.add_zero] at e1
   rw [e1,← k2]
  have hlen:(mag (a % b * s)).length≤100000000:=by
   have e1:=mag_len_mul (a % b) s
   have e2:=mag_len_le (Nat.mod_le a b)
   rw [hmag1] at e1
   simp at e1
   omega
  (repeat' first|(refine Ka ?_;first|refine Kb ?_|(refine Kc ?_;intro _))|refine Kd ?_|refine Kh ?_)
  refine TL.ents Ents.freeze ?_
  rw [show (us.drop 0).take ((mag (b * s)).length - 0)=us.take (mag (b * s)).length by simp]
  refine TL.call rfl rfl rfl (trim_ok (xs:=us.take (mag (b * s)).length) (fun x hx=>hus x (List.mem_of_mem_take hx)) (by simp;omega)) ?_
  rintro _ _ ⟨pr,cr,rfl,rfl⟩
  rw [hut]
  (repeat' first|(refine Ka ?_;first|refine Kb ?_|(refine Kc ?_;intro _))|refine Kd ?_|refine Kh ?_)
  refine TL.call rfl rfl rfl (short_ok (a:=a % b * s) (d:=s) hlen (by omega) (by omega)) ?_
  rintro _ _ ⟨pr2,cr2,rfl,rfl⟩
  rw [Nat.mul_div_cancel _ (show 0 < s by omega)]
  (repeat' first|(refine Ka ?_;first|refine Kb ?_|(refine Kc ?_;intro _))|refine Kd ?_|refine Kh ?_)
  refine TL.front (.ow (cN .u32) 95 qv qs) ?_
  refine TL.ents Ents.freeze ?_
  refine TL.call rfl rfl rfl (trim_ok hqs (by omega)) ?_
  rintro _ _ ⟨pq,cq,rfl,rfl⟩
  rw [← k1]
  (repeat' first|(refine Ka ?_;first|refine Kb ?_|(refine Kc ?_;intro _))|refine Kd ?_|refine Kh ?_)
  (refine Post.ra ?_)
  exact ⟨_,⟨pq,cq,pr2,cr2,rfl,rfl⟩,by (exact Ents.au)⟩
 | succ j =>
  show Tri _ _ _ _ [(4,qv),(8,.int .u32 (s:Int)),(9,.slice pV (mag (b * s)).length cV),(10,uv),(11,.int .i64 (mag (b * s)).length),(12,.int .i64 (((j+1:Nat):Int) - 1))] (.ow (cN .u32) 95 qv qs::.ow (cN .u32) 95 uv us::.ft (rd (cN .u32) (.slice pV (mag (b * s)).length cV) (mag (b * s)))::As) _
  rw [show ((j+1:Nat):Int) - 1=(j:Int) by omega]
  obtain ⟨u,hu⟩:∃ u,us[j]?=some u:=⟨_,List.getElem?_eq_getElem (by omega)⟩
  have hW:valB (us.drop j) < 1000000000 * (b * s):=by
   rw [valB_drop hu]
   exact div_next (hus u (List.mem_of_getElem? hu)) hlow
  have hW9:valB (us.drop j) / (b * s) < 1000000000:=Nat.div_lt_of_lt_mul (by rw [Nat.mul_comm];exact hW)
  (repeat' (first|((show TL _ _ _ _ (_::_) _ _ _;first|refine TL.fa ?_|refine TL.ua ?_|(refine TL.rba ?_;intro _)|refine TL.offa ?_|refine TL.off0a ?_|refine TL.gu ?_|fail))|(refine Stp.h ?_)|((show Tri _ _ _ (.cond _ _ _) _ _ _;first|refine Tri.cTa ?_|refine Tri.cFa ?_|refine Tri.condTa ?_|refine Tri.condFa ?_|refine Tri.condNTa ?_|refine Tri.condNFa ?_|fail))))
  refine TL.f rfl rfl (ExF.sliceRd (lo:=j) (hi:=j+(mag (b * s)).length+1) rfl (evLo.so rfl) (evHi.so rfl) (by omega) (by omega)) ?_
  (repeat' (first|((show TL _ _ _ _ (_::_) _ _ _;first|refine TL.fa ?_|refine TL.ua ?_|(refine TL.rba ?_;intro _)|refine TL.offa ?_|refine TL.off0a ?_|refine TL.gu ?_|fail))|(refine Stp.h ?_)|((show Tri _ _ _ (.cond _ _ _) _ _ _;first|refine Tri.cTa ?_|refine Tri.cFa ?_|refine Tri.condTa ?_|refine Tri.condFa ?_|refine Tri.condNTa ?_|refine Tri.condNFa ?_|fail))))
  refine TL.front (.ow (cN .u32) 95 uv us) ?_
  refine TL.call rfl rfl rfl (reduce_ok (us:=us) (b:=b * s) (lo:=j) hVl (by omega) (by omega) hus (by exact hs1) hW) ?_
  rintro _ _ ⟨us',rfl,hul',hus',hlow',ht',rfl⟩
  (repeat' first|(refine Ka ?_;first|refine Kb ?_|(refine Kc ?_;intro _))|refine Kd ?_|refine Kh ?_)
  refine Post.round (j,qs.set j (valB (us.drop j) / (b * s)),us') ⟨by simp only;omega,by simpa using hql,small_set hqs hW9,by simp only;omega,hus',?_,?_⟩ (by simp only;omega) (by (exact Sub.au)) (by (exact Ents.au))
  ·simp only
   rw [hlow']
   exact Nat.mod_lt _ hV0
  ·simp only
   have e1:=valB_take_le us j
   have e2:=valB_take_le us' j
   have hset:(qs.set j (valB (us.drop j) / (b * s)))[j]?=some (valB (us.drop j) / (b * s)):=by rw [List.getElem?_set,if_pos rfl,if_pos (by omega)]
   rw [List.length_take,Nat.min_eq_left (by omega)] at e1
   rw [List.length_take,Nat.min_eq_left (by omega),ht',hlow'] at e2
   rw [valB_drop hset,List.drop_set_of_lt (by omega),← e2]
   rw [← e1,Nat.pow_succ] at hval
   exact div_step hval
end Go.Proofs.YtkcnpgmgmgepoaaGreatDoor
namespace Go.Sx
open Go
theorem lt_pow_nDigits (n:Nat):n < 10 ^ Lib.nDigits n:=by
 have h:=numOf_lt (l:=Lib.decDigits n) (dec_dig n)
 rwa [numOf_dec,dec_len] at h
theorem nDigits_le_mag (n:Nat):Lib.nDigits n≤9 * (mag n).length+1:=by
 by_cases h0:n=0
 ·subst h0;rw [Lib.nDigits_small (by decide)];omega
 ·have h3:(mag n).length≠0:=fun h=>h0 (mag_len0.1 h)
  obtain ⟨d,hd⟩:∃ d,(mag n)[(mag n).length - 1]?=some d:=⟨_,List.getElem?_eq_getElem (by omega)⟩
  obtain ⟨k1,k2,k3⟩:=mag_get hd
  have hl0:n / 1000000000 ^ ((mag n).length - 1+1)=0:=by
   rw [show (mag n).length - 1+1=(mag n).length by omega]
   exact Nat.div_eq_of_lt (mag_lt_pow n)
  rw [nDigits_mag _ k2,k1,hl0,Nat.mul_zero,Nat.add_zero]
  have:=nDigits_le (k:=8) (r:=d) (by simpa using k3)
  omega
theorem mag_len_add (a b:Nat):(mag (a+b)).length≤max (mag a).length (mag b).length+1:=by
 refine mag_len_lt ?_
 have h1:=Nat.lt_of_lt_of_le (mag_lt_pow a) (Nat.pow_le_pow_right (n:=1000000000) (by omega) (Nat.le_max_left (mag a).length (mag b).length))
 have h2:=Nat.lt_of_lt_of_le (mag_lt_pow b) (Nat.pow_le_pow_right (n:=1000000000) (by omega) (Nat.le_max_right (mag a).length (mag b).length))
 rw [Nat.pow_succ]
 omega
end Go.Sx
namespace Go.Proofs.YtkcnpgmgmgepoaaGreatDoor
open Go Go.Sx
variable {w0:World} {As:List Ent}
theorem gcd_ok {v o:Value} {a b:Nat} [hf:FtIn As v Nat (cN .u32) (mag a)] [hg:FtIn As o Nat (cN .u32) (mag b)] (ha:(mag a).length≤10000000) (hb:(mag b).length≤10000000):CallsS Tryz.prog w0 334 [v,o] As (MagR As (Nat.gcd a b)):=by
 refine magR_of ?_
 refine CallsS.of_tri Tryz.func334 rfl Tryz.ntmps334 rfl ?_
 (repeat' first|(refine Ka ?_;first|refine Kb ?_|(refine Kc ?_;intro _))|refine Kd ?_|refine Kh ?_)
 refine Tri.loop (ι:=Value × Value × Nat × Nat) (fun s=>Nat.gcd s.2.2.1 s.2.2.2=Nat.gcd a b∧(mag s.2.2.1).length≤10000000∧(mag s.2.2.2).length≤10000000) (fun s=>s.2.2.2)
  (fun s=>[(0,s.1),(1,s.2.1)]) (fun s=>.ft (rd (cN .u32) s.2.1 (mag s.2.2.2))::.ft (rd (cN .u32) s.1 (mag s.2.2.1))::As) (v,o,a,b) ⟨rfl,ha,hb⟩ (by (exact Sub.au)) (Ents.trans (Ents.dup (v:=v)) (Ents.dup (v:=o))) ?_
 rintro ⟨v,o,x,y⟩ ⟨hxy,hx,hy⟩
 simp only at hxy hx hy
 show Tri _ _ _ _ [(0,v),(1,o)] (.ft (rd (cN .u32) o (mag y))::.ft (rd (cN .u32) v (mag x))::As) _
 (repeat' first|(refine Ka ?_;first|refine Kb ?_|(refine Kc ?_;intro _))|refine Kd ?_|refine Kh ?_)
 refine Kt rfl rfl rfl (zero_ok (n:=y)) ?_
 by_cases hy0:y=0
 ·subst hy0
  rw [Nat.gcd_zero_right] at hxy
  subst hxy
  (repeat' first|(refine Ka ?_;first|refine Kb ?_|(refine Kc ?_;intro _))|refine Kd ?_|refine Kh ?_)
  (refine Post.ra ?_)
  exact ⟨_,rfl,by (exact Ents.au)⟩
 ·by_cases hs:(mag x).length≤2∧(mag y).length≤2
  ·obtain ⟨hs1,hs2⟩:=hs
   have hx9:x < 1000000000000000000:=by
        have h1:=mag_lt_pow x
        have h2:=Nat.pow_le_pow_right (n:=1000000000) (by omega) hs1
        omega
   have hy9:y < 1000000000000000000:=by
        have h1:=mag_lt_pow y
        have h2:=Nat.pow_le_pow_right (n:=1000000000) (by omega) hs2
        omega
   (repeat' first|(refine Ka ?_;first|refine Kb ?_|(refine Kc ?_;intro _))|refine Kd ?_|refine Kh ?_)
   refine Kt rfl rfl rfl (small_ok (a:=x) hs1) ?_
   (repeat' first|(refine Ka ?_;first|refine Kb ?_|(refine Kc ?_;intro _))|refine Kd ?_|refine Kh ?_)
   refine Kt rfl rfl rfl (small_ok (a:=y) hs2) ?_
   (repeat' first|(refine Ka ?_;first|refine Kb ?_|(refine Kc ?_;intro _))|refine Kd ?_|refine Kh ?_)
   refine Tri.loop (ι:=Nat × Nat) (fun s=>Nat.gcd s.1 s.2=Nat.gcd a b∧s.1 < 1000000000000000000∧s.2 < 1000000000000000000) (fun s=>s.2)
        (fun s=>[(5,.int .u64 (s.1:Int)),(6,.int .u64 (s.2:Int))]) (fun _=>As) (x,y) ⟨hxy,hx9,hy9⟩ (by (exact Sub.au)) (by (exact Ents.au)) ?_
   rintro ⟨c,d⟩ ⟨hcd,hc9,hd9⟩
   simp only at hcd hc9 hd9
   show Tri _ _ _ _ [(5,.int .u64 (c:Int)),(6,.int .u64 (d:Int))] As _
   (repeat' first|(refine Ka ?_;first|refine Kb ?_|(refine Kc ?_;intro _))|refine Kd ?_|refine Kh ?_)
   ((show Tri _ _ _ (.cond _ _ _) _ _ _;first|refine Tri.condP rfl (fun hc=>?_) (fun hc=>?_)|refine Tri.condN rfl (fun hc=>?_) (fun hc=>?_)))
   ·have hre:((c:Int) % (d:Int))=((c % d:Nat):Int):=(Int.natCast_emod _ _).symm
    have hlt:c % d < d:=Nat.mod_lt _ (by omega)
    (repeat' first|(refine Ka ?_;first|refine Kb ?_|(refine Kc ?_;intro _))|refine Kd ?_|refine Kh ?_)
    refine Tri.dr (.take 0 (.take 1 (.take 2 (.take 3 (.take 4 (.take 5 (.done))))))) ?_
    (repeat' first|(refine Ka ?_;first|refine Kb ?_|(refine Kc ?_;intro _))|refine Kd ?_|(refine Ki ?_;refine Kj ?_)|exact Kk|refine Kl ?_ ?_|(refine Km ?_;first|refine Kn ?_|(refine Ko ?_;intro _))|(refine Kp ?_;first|refine Kq ?_|refine Kr ?_)|refine Kh ?_)
    rw [hre]
    exact Post.round (d,c % d) ⟨by simp only;rw [← hcd,Nat.gcd_comm,Nat.gcd_comm c d];exact (Nat.gcd_rec d c).symm,hd9,by simp only;omega⟩ (by simp only;exact hlt) (by (exact Sub.au)) (by (exact Ents.au))
   ·have hd0:d=0:=by omega
    subst hd0
    rw [Nat.gcd_zero_right] at hcd
    (repeat' first|(refine Ka ?_;first|refine Kb ?_|(refine Kc ?_;intro _))|refine Kd ?_|refine Kh ?_)
    refine TL.call rfl rfl rfl (fromSmall_ok (n:=c) (by omega)) ?_
    rintro _ _ ⟨p,cap,rfl,rfl⟩
    rw [← hcd]
    (repeat' first|(refine Ka ?_;first|refine Kb ?_|(refine Kc ?_;intro _))|refine Kd ?_|refine Kh ?_)
    (refine Post.ra ?_)
    exact ⟨_,rfl,by (exact Ents.au)⟩
  ·have hlt:x % y < y:=Nat.mod_lt _ (by omega)
   have hl9:=mag_len_le (Nat.le_of_lt hlt)
   have hgc:Nat.gcd y (x % y)=Nat.gcd a b:=by rw [← hxy,Nat.gcd_comm x y,Nat.gcd_rec y x,Nat.gcd_comm]
   by_cases hs1:(mag x).length≤2
   all_goals
        (repeat' first|(refine Ka ?_;first|refine Kb ?_|(refine Kc ?_;intro _))|refine Kd ?_|(refine Ki ?_;refine Kj ?_)|exact Kk|refine Kl ?_ ?_|(refine Km ?_;first|refine Kn ?_|(refine Ko ?_;intro _))|(refine Kp ?_;first|refine Kq ?_|refine Kr ?_)|refine Kh ?_)
        refine TL.call rfl rfl rfl (divide_ok (a:=x) (b:=y) hy0 (by omega) (by omega)) ?_
        rintro _ _ ⟨p,cap,p',cap',rfl,rfl⟩
        (repeat' first|(refine Ka ?_;first|refine Kb ?_|(refine Kc ?_;intro _))|refine Kd ?_|refine Kh ?_)
        exact Post.round (o,.slice p' (mag (x % y)).length cap',y,x % y) ⟨hgc,by simp only;omega,by simp only;omega⟩ (by simp only;exact hlt) (by (exact Sub.au)) (by (exact Ents.au))
end Go.Proofs.YtkcnpgmgmgepoaaGreatDoor
namespace Go.Sx
open Go
theorem St.below {w0 w w':World} {As:List Ent} (h:St w0 w As) (hb:RowKit.Below w.heap.size w w'):St w0 w' As:=by
 obtain ⟨H,bs,g⟩:=h
 refine ⟨H,bs,Nat.le_trans g.size hb.size,hb.os.trans g.os,hb.tape.trans g.tape,hb.output.trans g.output,fun b o hbo=>?_,g.old,Sat.move (FH.le_refl H) g.sat fun b hm=>hb.block b (g.sat.lt b hm),g.nd,g.ap⟩
 have h1:=g.fz b o hbo
 rw [hb.block b (Array.getElem?_eq_some_iff.1 h1).1];exact h1
end Go.Sx
namespace Go.Proofs.YtkcnpgmgmgepoaaGreatDoor
open Go Go.Sx
variable {w0:World} {As:List Ent}
theorem opposite_ok {v:Value} {x:Int} [hf:RdIn As v Nat (cN .u32) (mag x.natAbs)]:CallsS Tryz.prog w0 333 [.agg #[v,.bool (decide (x < 0))]] As fun u Bs=>u=.agg #[v,.bool (decide (-x < 0))]∧Bs=As:=by
 refine CallsS.rdSl v fun pv cv hv=>?_
 subst hv
 refine CallsS.of_tri Tryz.func333 rfl Tryz.ntmps333 rfl ?_
 have e1:(!decide (x < 0)&&decide (x.natAbs≠0))=decide (-x < 0):=by
  rw [Bool.eq_iff_iff]
  simp only [Bool.and_eq_true,Bool.not_eq_true',decide_eq_false_iff_not,decide_eq_true_eq]
  omega
 (repeat' first|(refine Ka ?_;first|refine Kb ?_|(refine Kc ?_;intro _))|refine Kd ?_|refine Kh ?_)
 refine TL.call rfl rfl rfl (of_ok (n:=x.natAbs)) ?_
 rintro _ As ⟨rfl,rfl⟩
 rw [e1]
 (repeat' first|(refine Ka ?_;first|refine Kb ?_|(refine Kc ?_;intro _))|refine Kd ?_|refine Kh ?_)
 (refine Post.ra ?_)
 exact ⟨_,⟨rfl,rfl⟩,by (exact Ents.au)⟩
end Go.Proofs.YtkcnpgmgmgepoaaGreatDoor
namespace Go.Proofs.YtkcnpgmgmgepoaaGreatDoor
open Go Go.Sx
variable {w0:World} {As:List Ent}
theorem check_okW {s:List UInt8} (hs:s.length≤1000000000):CallsS Tryz.prog w0 223 [.string ⟨s.toArray⟩] As fun u Bs=>u=.int .i64 (checkW s)∧Bs=As:=by
 refine CallsS.of_tri Tryz.func223 rfl Tryz.ntmps223 rfl ?_
 (repeat' first|(refine Ka ?_;first|refine Kb ?_|(refine Kc ?_;intro _))|refine Kd ?_|refine Kh ?_)
 refine TL.call rfl rfl rfl (read_ok hs) ?_
 rintro _ _ ⟨p,cap,rfl,rfl⟩
 unfold checkW
 cases h1:readW s with
 | none =>
  (repeat' first|(refine Ka ?_;first|refine Kb ?_|(refine Kc ?_;intro _))|refine Kd ?_|refine Kh ?_)
  (refine Post.ra ?_)
  exact ⟨_,⟨rfl,rfl⟩,by (exact Ents.au)⟩
 | some x =>
  (repeat' first|(refine Ka ?_;first|refine Kb ?_|(refine Kc ?_;intro _))|refine Kd ?_|refine Kh ?_)
  (refine Post.ra ?_)
  exact ⟨_,⟨rfl,rfl⟩,by (exact Ents.au)⟩
end Go.Proofs.YtkcnpgmgmgepoaaGreatDoor
namespace Go.Proofs.YtkcnpgmgmgepoaaGreatDoor
open Go Go.Sx
variable {w0:World} {As:List Ent}
instance:IfT Tryz.prog 42:=⟨_,Tryz.underlying42⟩
def ErrR (w:World):Prop:=∃ ev,w.cell? ⟨1,0,none⟩=some ev∧(ev=.nilIface∨∃ te pe,ev=.iface te pe)
theorem ErrR.keep {w:World} (he:ErrR w0) (h:St w0 w As):ErrR w:=by
 obtain ⟨ev,h1,h2⟩:=he
 refine ⟨ev,?_,h2⟩
 simp only [World.cell?] at h1 ⊢
 cases ho:w0.heap[1]? with
 | none=>rw [ho] at h1;cases h1
 | some o=>rw [St.old h ho];rw [ho] at h1;exact h1
theorem parse_ok {s:List UInt8} {z:Int} (hr:readW s=some z) (h:-9223372036854775808≤z∧z≤9223372036854775807) (hs:s.length≤1000000000) :
  CallsS Tryz.prog w0 297 [.string ⟨s.toArray⟩,.int .i64 10,.int .i64 64] As fun u Bs=>u=.tuple #[.int .i64 z,.nilIface]∧Bs=As :=
 CallsS.mk fun w hst=>(Tryz.strconv_ParseInt_10_at64_ok ⟨s.toArray⟩ (by show s.toArray.size≤_;simp;omega) z (by rw [show (⟨s.toArray⟩:ByteArray).data.toList=s from rfl,parseInt_of hr,if_pos h]) w).mono fun en w' ⟨h1,h2⟩=>by
  refine ⟨_,As,h1,⟨rfl,rfl⟩,?_⟩
  rcases h2 with rfl|⟨t,rfl⟩
  ·exact hst
  ·exact hst.below (Lib.bytesWorld_below _ _ _)
theorem parseBig_ok (he:ErrR w0) {s:List UInt8} {z:Int} (hr:readW s=some z) (h:¬ (-9223372036854775808≤z∧z≤9223372036854775807)) (hs:s.length≤1000000000) :
  CallsS Tryz.prog w0 297 [.string ⟨s.toArray⟩,.int .i64 10,.int .i64 64] As fun u Bs=>(∃ n t p,u=.tuple #[.int .i64 n,.iface t p])∧Bs=As :=
 CallsS.mk fun w hst=>by
  obtain ⟨ev,h1,h2⟩:=he.keep hst
  refine (Tryz.strconv_ParseInt_10_at64_range ⟨s.toArray⟩ (by show s.toArray.size≤_;simp;omega) (by rw [show (⟨s.toArray⟩:ByteArray).data.toList=s from rfl,parseInt_of hr,if_neg h]) ev w h1 h2).mono fun en w' ⟨N,k1,_,_,k4⟩=>?_
  exact ⟨_,As,k1,⟨⟨_,_,_,rfl⟩,rfl⟩,hst.below k4⟩
theorem int_ok (he:ErrR w0) {s:List UInt8} (hs:s.length≤1000000000):CallsS Tryz.prog w0 212 [.string ⟨s.toArray⟩] As fun u Bs=>u=.tuple #[.int .i64 (intW s).1,.int .i64 (intW s).2]∧Bs=As:=by
 refine CallsS.of_tri Tryz.func212 rfl Tryz.ntmps212 rfl ?_
 (repeat' first|(refine Ka ?_;first|refine Kb ?_|(refine Kc ?_;intro _))|refine Kd ?_|refine Kh ?_)
 refine Kt rfl rfl rfl (check_okW hs) ?_
 unfold intW checkW
 cases h1:readW s with
 | none =>
  simp only [Option.isSome_none,Bool.false_eq_true,if_false]
  (repeat' first|(refine Ka ?_;first|refine Kb ?_|(refine Kc ?_;intro _))|refine Kd ?_|refine Kh ?_)
  (refine Post.ra ?_)
  exact ⟨_,⟨rfl,rfl⟩,by (exact Ents.au)⟩
 | some x =>
  simp only [Option.isSome_some,if_true]
  by_cases hx:-9223372036854775808≤x∧x≤9223372036854775807
  ·rw [if_pos hx]
   (repeat' first|(refine Ka ?_;first|refine Kb ?_|(refine Kc ?_;intro _))|refine Kd ?_|refine Kh ?_)
   refine Kt rfl rfl rfl (parse_ok h1 hx hs) ?_
   (repeat' first|(refine Ka ?_;first|refine Kb ?_|(refine Kc ?_;intro _))|refine Kd ?_|refine Kh ?_)
   refine TL.f rfl rfl (ExF.neqNil rfl) ?_
   (repeat' first|(refine Ka ?_;first|refine Kb ?_|(refine Kc ?_;intro _))|refine Kd ?_|refine Kh ?_)
   (refine Post.ra ?_)
   exact ⟨_,⟨rfl,rfl⟩,by (exact Ents.au)⟩
  ·rw [if_neg hx]
   (repeat' first|(refine Ka ?_;first|refine Kb ?_|(refine Kc ?_;intro _))|refine Kd ?_|refine Kh ?_)
   refine TL.call rfl rfl rfl (parseBig_ok he h1 hx hs) ?_
   rintro _ _ ⟨⟨n,t,p,rfl⟩,rfl⟩
   (repeat' first|(refine Ka ?_;first|refine Kb ?_|(refine Kc ?_;intro _))|refine Kd ?_|refine Kh ?_)
   refine TL.f rfl rfl (ExF.neqHeld rfl) ?_
   (repeat' first|(refine Ka ?_;first|refine Kb ?_|(refine Kc ?_;intro _))|refine Kd ?_|refine Kh ?_)
   (refine Post.ra ?_)
   exact ⟨_,⟨rfl,rfl⟩,by (exact Ents.au)⟩
end Go.Proofs.YtkcnpgmgmgepoaaGreatDoor
namespace Go.Sx
open Go
end Go.Sx
namespace Go.Proofs.YtkcnpgmgmgepoaaGreatDoor
open Go Go.Sx
variable {w0:World} {As:List Ent}
end Go.Proofs.YtkcnpgmgmgepoaaGreatDoor
