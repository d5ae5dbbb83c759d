/- Walks: magnitudes of small numbers, products, a number by one group. -/
import Derived.Test.YtaipdafohfmkcaaGreatDoorWa3
import Derived.Test.YtaipdafohfmkcaaGreatDoorPl
import Derived.Test.YtaipdafohfmkcaaGreatDoorSxB
import Derived.Below
set_option maxHeartbeats 1000000
namespace Go.Proofs.YtaipdafohfmkcaaGreatDoor
open Go Go.Sx
variable {w0:World} {As:List Ent}
theorem Zcz {n:Nat} (hn:n≤18446744073709551615):CallsS Tryz.prog w0 67 [.int .u64 (n:Int)] As (MagR As n):=by
 refine Zcy ?_
 refine Zaa Tryz.func67 rfl Tryz.ntmps67 rfl ?_
 repeat' first|refine Kz ?_|intro _
 refine Tri.loop (ι:=Nat × Value × List Nat) (fun s=>s.1≤n∧s.2.2.length+(mag s.1).length≤(mag n).length∧s.2.2++mag s.1=mag n) (fun s=>s.1)
  (fun s=>[(0,.int .u64 (s.1:Int)),(3,s.2.1)]) (fun s=>.ow (cN .u32) 75 s.2.1 s.2.2::As) (n,.slice none 0 0,[]) ⟨Nat.le_refl _,by simp,rfl⟩ Zag (Zc5 _) ?_
 rintro ⟨k,sv,xs⟩ ⟨hk,hl,hx⟩
 simp only at hk hl hx
 have hml:(mag n).length≤3:=Zcb (by omega)
 show Tri _ _ _ _ [(0,.int .u64 (k:Int)),(3,sv)] (.ow (cN .u32) 75 sv xs::As) _
 repeat' first|refine Kz ?_|intro _
 (refine Kx (fun hc=>?_) fun hc=>?_)
 ·have hk0:k≠0:=by omega
  rw [Zb3 hk0] at hx hl
  repeat' first|refine Kz ?_|intro _
  rename_i v9
  exact Post.round (k / 1000000000,v9,xs++[k % 1000000000]) ⟨by simp only;omega,by simp at hl ⊢;omega,by simpa using hx⟩ (by simp only;omega) Zag (Ents.refl _)
 ·have hk0:k=0:=by omega
  subst hk0
  rw [Zai,List.append_nil] at hx
  subst hx
  repeat' first|refine Kz ?_|intro _
  (refine Zad ?_)
  exact ⟨_,rfl,Ents.trans Ents.freeze Zab⟩
theorem Zj7 {v:Value} {a:Nat} [hf:RdIn As v Nat (cN .u32) (mag a)] (ha:(mag a).length≤2):CQ Tryz.prog w0 88 [v] As (.int .u64 (a:Int)):=by
 refine Zaa Tryz.func88 rfl Tryz.ntmps88 rfl ?_
 repeat' first|refine Kz ?_|intro _
 refine Tri.loop (ι:=Nat) (fun j=>j≤(mag a).length) (fun j=>j)
  (fun j=>[(0,v),(3,.int .u64 ((a / 1000000000 ^ j:Nat):Int)),(4,.int .i64 ((j:Int) - 1))]) (fun _=>As) (mag a).length (Nat.le_refl _) (by rw [Nat.div_eq_of_lt (Zah a)];(exact Zag)) Zab ?_
 intro j hj
 cases j with
 | zero =>
  rw [show ((0:Nat):Int) - 1=-1 from rfl]
  repeat' first|refine Kz ?_|intro _
  (refine Zad ?_)
  exact ⟨_,⟨by simp,rfl⟩,Zab⟩
 | succ j =>
  rw [show ((j+1:Nat):Int) - 1=(j:Int) by omega]
  obtain ⟨d,hd⟩:∃ d,(mag a)[j]?=some d:=⟨_,List.getElem?_eq_getElem (by omega)⟩
  obtain ⟨k1,k2,k3⟩:=Zb4 hd
  have hlt:a < 1000000000 * 1000000000:=Nat.lt_of_lt_of_le (Zah a) (Nat.le_trans (Nat.pow_le_pow_right (by omega) ha) (by decide))
  have hq:a / 1000000000 ^ (j+1) < 1000000000:=by
   rw [Nat.pow_succ,Nat.mul_comm,← Nat.div_div_eq_div_mul]
   exact Nat.lt_of_le_of_lt (Nat.div_le_self _ _) (by omega)
  repeat' first|refine Kz ?_|intro _
  refine Post.round j (by omega) (by omega) ?_ Zab
  rw [show (((a / 1000000000 ^ j:Nat)):Int)=((a / 1000000000 ^ (j+1):Nat):Int) * 1000000000+(d:Int) by omega]
  (exact Zag)
theorem Zd1 {v o:Value} {a b:Nat} [hf:RdIn As v Nat (cN .u32) (mag a)] [hg:RdIn As o Nat (cN .u32) (mag b)] (ha:(mag a).length≤100000000) (hb:(mag b).length≤100000000):CallsS Tryz.prog w0 64 [v,o] As (MagR As (a * b)):=by
 have hsa:=Zaz a
 have hsb:=Zaz b
 have hrl:(List.replicate ((mag a).length+(mag b).length) 0).length=(mag a).length+(mag b).length:=List.length_replicate
 refine Zaa Tryz.func64 rfl Tryz.ntmps64 rfl ?_
 repeat' first|refine Kz ?_|intro _
 rename_i sv
 refine Tri.loop (ι:=Nat × List Nat) (fun s=>s.1≤(mag a).length∧s.2.length=(mag a).length+(mag b).length∧(∀ x∈s.2,x < 1000000000)∧valB s.2=valB ((mag a).take s.1) * b) (fun s=>(mag a).length - s.1)
  (fun s=>[(1,o),(5,sv),(17,v),(18,.int .i64 (mag a).length),(19,.int .i64 (s.1:Int))]) (fun s=>.ow (cN .u32) 75 sv s.2::As)
  (0,List.replicate ((mag a).length+(mag b).length) 0) ⟨by omega,hrl,Zcs _,by simp [Zbk,valB]⟩ Zag Zab ?_
 rintro ⟨i,xs⟩ ⟨hi,hxl,hxs,hval⟩
 simp only at hi hxl hxs hval
 show Tri _ _ _ _ [(1,o),(5,sv),(17,v),(18,_),(19,.int .i64 (i:Int))] (.ow (cN .u32) 75 sv xs::As) _
 repeat' first|refine Kz ?_|intro _
 (refine Kx (fun hc=>?_) fun hc=>?_)
 ·obtain ⟨d,hd⟩:∃ d,(mag a)[i]?=some d:=⟨_,List.getElem?_eq_getElem (by omega)⟩
  have hd9:=hsa d (List.mem_of_getElem? hd)
  have hta:=Zaq hd
  have hbp:=Zah b
  have hap:valB ((mag a).take i) < 1000000000 ^ i:=by
   have:=Zcr (xs:=(mag a).take i) fun x hx=>hsa x (List.mem_of_mem_take hx)
   rwa [List.length_take,Nat.min_eq_left (by omega)] at this
  have hxz:xs[i+(mag b).length]?=some 0:=by
   obtain ⟨z,hz⟩:∃ z,xs[i+(mag b).length]?=some z:=⟨_,List.getElem?_eq_getElem (by omega)⟩
   rw [Zg3 (n:=i+(mag b).length) (by
    rw [hval,Nat.pow_add]
    rcases Nat.eq_zero_or_pos b with h0|h0
    ·rw [h0,Nat.mul_zero];exact Nat.mul_pos (Nat.pow_pos (by omega)) (Nat.pow_pos (by omega))
    ·exact Nat.lt_of_lt_of_le (Nat.mul_lt_mul_of_pos_right hap h0) (Nat.mul_le_mul_left _ (Nat.le_of_lt hbp))) (Nat.le_refl _) hz] at hz
   exact hz
  repeat' first|refine Kz ?_|intro _
  refine Tri.loop (ι:=Nat × List Nat × Nat) (fun s=>s.1≤(mag b).length∧s.2.1.length=(mag a).length+(mag b).length∧(∀ x∈s.2.1,x < 1000000000)∧s.2.2 < 1000000000∧s.2.1[i+(mag b).length]?=some 0∧valB s.2.1+1000000000 ^ (i+s.1) * s.2.2=valB ((mag a).take i) * b+1000000000 ^ i * d * valB ((mag b).take s.1)) (fun s=>(mag b).length - s.1)
   (fun s=>[(1,o),(5,sv),(6,.int .i64 (i:Int)),(7,.int .u32 (d:Int)),(8,.int .u64 (s.2.2:Int)),(17,v),(18,.int .i64 (mag a).length),(19,.int .i64 (i:Int)),(24,o),(25,.int .i64 (mag b).length),(26,.int .i64 (s.1:Int))]) (fun s=>.ow (cN .u32) 75 sv s.2.1::As)
   (0,xs,0) ⟨by omega,hxl,hxs,by simp only;omega,hxz,by simp [valB,hval]⟩ Zag Zab ?_
  rintro ⟨j,ys,c⟩ ⟨hj,hyl,hys,hc9,hyz,hyv⟩
  simp only at hj hyl hys hc9 hyz hyv
  show Tri _ _ _ _ [(1,o),(5,sv),(6,.int .i64 (i:Int)),(7,.int .u32 (d:Int)),(8,.int .u64 (c:Int)),(17,v),(18,_),(19,.int .i64 (i:Int)),(24,o),(25,_),(26,.int .i64 (j:Int))] (.ow (cN .u32) 75 sv ys::As) _
  repeat' first|refine Kz ?_|intro _
  (refine Kx (fun hc=>?_) fun hc=>?_)
  ·obtain ⟨ee,he⟩:∃ ee,(mag b)[j]?=some ee:=⟨_,List.getElem?_eq_getElem (by omega)⟩
   have he9:=hsb ee (List.mem_of_getElem? he)
   have htb:=Zaq he
   obtain ⟨p,hp⟩:∃ p,ys[i+j]?=some p:=⟨_,List.getElem?_eq_getElem (by omega)⟩
   have hp9:=hys p (List.mem_of_getElem? hp)
   have hlim:=Zi8 hd9 he9 hc9 hp9
   have hij:((i:Int)+(j:Int))=((i+j:Nat):Int):=by omega
   have hde:(d:Int) * (ee:Int)=((d * ee:Nat):Int):=(Int.natCast_mul d ee).symm
   repeat' first|refine Kz ?_|intro _
   refine Post.round (j+1,ys.set (i+j) ((c+(p+d * ee)) % 1000000000),(c+(p+d * ee)) / 1000000000) ⟨by simp only;omega,by simpa using hyl,Zat hys (by omega),by simp only;omega,?_,?_⟩ (by simp only;omega) Zag (Ents.refl _)
   ·simp only
    rw [List.getElem?_set_ne (by omega)]
    exact hyz
   ·simp only
    have h1:=Zk0 (Zdy (g:=(c+(p+d * ee)) % 1000000000) hp) (show c+(p+d * ee)=c+p+d * ee by omega) hyv
    rw [show i+(j+1)=(i+j)+1 by omega,Nat.pow_succ,h1,htb,Nat.mul_add,Nat.pow_add,Nat.add_assoc]
    congr 2
    simp only [Nat.mul_assoc,Nat.mul_left_comm]
  ·have hje:j=(mag b).length:=by omega
   subst hje
   rw [Zal (Nat.le_refl _),Za2] at hyv
   repeat' first|refine Kz ?_|intro _
   refine Post.round (i+1,ys.set (i+(mag b).length) c) ⟨by simp only;omega,by simpa using hyl,Zat hys hc9,?_⟩ (by simp only;omega) Zag Zab
   simp only
   have h1:=Zdy (g:=c) hyz
   rw [hta,Nat.add_mul]
   omega
 ·have hie:i=(mag a).length:=by omega
  rw [Zal (by omega),Za2] at hval
  repeat' first|refine Kz ?_|intro _
  refine TL.ents Ents.freeze ?_
  refine TL.call rfl rfl rfl (Zeh hxs (by omega)) ?_
  rintro _ _ ⟨p,cap,rfl,rfl⟩
  rw [hval]
  repeat' first|refine Kz ?_|intro _
  (refine Zad ?_)
  exact ⟨_,⟨p,cap,rfl,rfl⟩,Zab⟩
def ShortR (As:List Ent) (q r:Nat) (u:Value) (Bs:List Ent):Prop:=∃ p cap,u=.tuple #[.slice p (mag q).length cap,.int .u32 (r:Int)]∧Bs=.ft (rd (cN .u32) (.slice p (mag q).length cap) (mag q))::As
theorem Zg6 {v:Value} {a d:Nat} [hf:RdIn As v Nat (cN .u32) (mag a)] (ha:(mag a).length≤100000000) (hd0:0 < d) (hd9:d < 4294967296):CallsS Tryz.prog w0 66 [v,.int .u32 (d:Int)] As (ShortR As (a / d) (a % d)):=by
 have hsa:=Zaz a
 have hrl:(List.replicate (mag a).length 0).length=(mag a).length:=List.length_replicate
 refine Zaa Tryz.func66 rfl Tryz.ntmps66 rfl ?_
 repeat' first|refine Kz ?_|intro _
 rename_i sv
 refine Tri.loop (ι:=Nat × List Nat × Nat) (fun s=>s.1≤(mag a).length∧s.2.1.length=(mag a).length∧(∀ x∈s.2.1,x < 1000000000)∧s.2.2 < d∧valB (s.2.1.drop s.1) * d+s.2.2=valB ((mag a).drop s.1)) (fun s=>s.1)
  (fun s=>[(0,v),(1,.int .u32 (d:Int)),(6,sv),(7,.int .u64 (s.2.2:Int)),(8,.int .i64 ((s.1:Int) - 1))]) (fun s=>.ow (cN .u32) 75 sv s.2.1::As)
  ((mag a).length,List.replicate (mag a).length 0,0) ⟨Nat.le_refl _,hrl,Zcs _,hd0,by simp [valB]⟩ Zag Zab ?_
 rintro ⟨j,xs,r⟩ ⟨hj,hxl,hxs,hr,hval⟩
 simp only at hj hxl hxs hr hval
 cases j with
 | zero =>
  rw [List.drop_zero,List.drop_zero,Za2] at hval
  obtain ⟨e1,e2⟩:=Zgt hval hr
  show Tri _ _ _ _ [(0,v),(1,.int .u32 (d:Int)),(6,sv),(7,.int .u64 (r:Int)),(8,.int .i64 (((0:Nat):Int) - 1))] (.ow (cN .u32) 75 sv xs::As) _
  rw [show ((0:Nat):Int) - 1=-1 from rfl]
  repeat' first|refine Kz ?_|intro _
  refine TL.ents Ents.freeze ?_
  refine TL.call rfl rfl rfl (Zeh hxs (by omega)) ?_
  rintro _ _ ⟨p,cap,rfl,rfl⟩
  repeat' first|refine Kz ?_|intro _
  (refine Zad ?_)
  rw [e1,e2]
  exact ⟨_,⟨p,cap,rfl,rfl⟩,Zab⟩
 | succ j =>
  obtain ⟨g,hg⟩:∃ g,(mag a)[j]?=some g:=⟨_,List.getElem?_eq_getElem (by omega)⟩
  have hg9:=hsa g (List.mem_of_getElem? hg)
  have hq9:=Zn9 hr hg9
  have hqr:(r * 1000000000+g) % d < d:=Nat.mod_lt _ hd0
  have hset:(xs.set j ((r * 1000000000+g) / d))[j]?=some ((r * 1000000000+g) / d):=by rw [List.getElem?_set,if_pos rfl,if_pos (by omega)]
  have hnew:valB ((xs.set j ((r * 1000000000+g) / d)).drop j) * d+(r * 1000000000+g) % d=valB ((mag a).drop j):=by
   rw [Zdz hset,Zdz hg,List.drop_set_of_lt (by omega)]
   exact Zk2 hval rfl
  have hqe:((r:Int) * 1000000000+g) / (d:Int)=(((r * 1000000000+g) / d:Nat):Int):=by rw [Int.natCast_ediv];rfl
  have hqz:0≤((r:Int) * 1000000000+g) / (d:Int)∧((r:Int) * 1000000000+g) / (d:Int) < 1000000000:=by
   rw [hqe];exact ⟨Int.natCast_nonneg _,Int.ofNat_lt.2 hq9⟩
  have hrz:0≤((r:Int) * 1000000000+g) % (d:Int)∧((r:Int) * 1000000000+g) % (d:Int) < d:=⟨Int.emod_nonneg _ (by omega),Int.emod_lt_of_pos _ (by omega)⟩
  show Tri _ _ _ _ [(0,v),(1,.int .u32 (d:Int)),(6,sv),(7,.int .u64 (r:Int)),(8,.int .i64 (((j+1:Nat):Int) - 1))] (.ow (cN .u32) 75 sv xs::As) _
  rw [show ((j+1:Nat):Int) - 1=(j:Int) by omega]
  repeat' first|refine Kz ?_|intro _
  rw [hqe]
  repeat' first|refine Kz ?_|intro _
  exact Post.round (j,xs.set j ((r * 1000000000+g) / d),(r * 1000000000+g) % d) ⟨by simp only;omega,by simpa using hxl,Zat hxs hq9,hqr,hnew⟩ (by simp only;omega) Zag (Ents.refl _)
end Go.Proofs.YtaipdafohfmkcaaGreatDoor
namespace Go.Proofs.YtaipdafohfmkcaaGreatDoor
open Go Go.Sx
variable {w0:World} {As:List Ent}
def RedR (As:List Ent) (vu:Value) (us:List Nat) (lo b:Nat) (r:Value) (Bs:List Ent):Prop:=∃ us':List Nat,r=.int .u32 ((valB (us.drop lo) / b:Nat):Int)∧us'.length=us.length∧(∀ x∈us',x < 1000000000)∧valB (us'.drop lo)=valB (us.drop lo) % b∧us'.take lo=us.take lo∧Bs=.ow (cN .u32) 75 vu us'::As
set_option maxHeartbeats 1000000 in
theorem Zmf {vu v:Value} {us:List Nat} {b lo m:Nat} [hg:RdIn As v Nat (cN .u32) (mag b)] (hn:(mag b).length=m+2) (hl:lo+(mag b).length+1≤us.length) (hul:us.length≤1000000000) (hus:∀ x∈us,x < 1000000000) (hb:500000000 * 1000000000 ^ (m+1)≤b) (hW:valB (us.drop lo) < 1000000000 * b) :
  CallsS Tryz.prog w0 68 [subV 1 vu lo (lo+(mag b).length+1),v] (.ow (cN .u32) 75 vu us::As) (RedR As vu us lo b):=by
 have hsb:=Zaz b
 obtain ⟨u0,hu0⟩:∃ x,us[lo+(mag b).length]?=some x:=⟨_,List.getElem?_eq_getElem (by omega)⟩
 obtain ⟨u1,hu1⟩:∃ x,us[lo+((mag b).length - 1)]?=some x:=⟨_,List.getElem?_eq_getElem (by omega)⟩
 obtain ⟨u2,hu2⟩:∃ x,us[lo+((mag b).length - 2)]?=some x:=⟨_,List.getElem?_eq_getElem (by omega)⟩
 obtain ⟨v1,hv1⟩:∃ x,(mag b)[(mag b).length - 1]?=some x:=⟨_,List.getElem?_eq_getElem (by omega)⟩
 obtain ⟨v2,hv2⟩:∃ x,(mag b)[(mag b).length - 2]?=some x:=⟨_,List.getElem?_eq_getElem (by omega)⟩
 have hu09:=hus _ (List.mem_of_getElem? hu0)
 have hu19:=hus _ (List.mem_of_getElem? hu1)
 have hu29:=hus _ (List.mem_of_getElem? hu2)
 have hv19:=hsb _ (List.mem_of_getElem? hv1)
 have hv29:=hsb _ (List.mem_of_getElem? hv2)
 have hb0:0 < b:=Nat.lt_of_lt_of_le (Nat.mul_pos (by omega) (Nat.pow_pos (by omega))) hb
 have hbn:=Zah b
 rw [hn] at hbn
 have hWn:valB (us.drop lo) < 1000000000 ^ (m+3):=by
  rw [Nat.pow_succ,Nat.mul_comm]
  exact Nat.lt_of_lt_of_le hW (Nat.mul_le_mul_left _ (Nat.le_of_lt hbn))
 have hhigh:=Zhv hWn
 -- the first groups
 have hV:b=(v1 * 1000000000+v2) * 1000000000 ^ m+valB ((mag b).take m):=by
  have:=Zkz (xs:=mag b) (k:=m) (by rw [← hv2];congr 1;omega) (by rw [← hv1];congr 1;omega) hn
  rwa [Za2] at this
 have hVl:valB ((mag b).take m) < 1000000000 ^ m:=by
  have:=Zcr (xs:=(mag b).take m) fun x hx=>hsb x (List.mem_of_mem_take hx)
  rwa [List.length_take,Nat.min_eq_left (by omega)] at this
 have hWe:valB (us.drop lo)=((u0 * 1000000000+u1) * 1000000000+u2) * 1000000000 ^ m+valB ((us.drop lo).take m) :=
  Zhx (by rw [List.getElem?_drop,← hu2];congr 1;omega) (by rw [List.getElem?_drop,← hu1];congr 1;omega) (by rw [List.getElem?_drop,← hu0];congr 1;omega) hhigh
 have hWl:valB ((us.drop lo).take m) < 1000000000 ^ m:=by
  have:=Zcr (xs:=(us.drop lo).take m) fun x hx=>hus x (List.mem_of_mem_drop (List.mem_of_mem_take hx))
  rwa [List.length_take,List.length_drop,Nat.min_eq_left (by omega)] at this
 have hK:0 < 1000000000 ^ m:=Nat.pow_pos (by omega)
 have hv1h:1000000000≤2 * v1:=by
  have h1:500000000 * 1000000000 * 1000000000 ^ m≤b:=by rw [Nat.pow_succ] at hb;rw [Nat.mul_assoc,Nat.mul_comm 1000000000];exact hb
  have h2:b < (v1 * 1000000000+1000000000) * 1000000000 ^ m:=by
   have:(v1 * 1000000000+v2+1) * 1000000000 ^ m≤(v1 * 1000000000+1000000000) * 1000000000 ^ m:=Nat.mul_le_mul_right _ (by omega)
   rw [Nat.add_mul _ 1,Nat.one_mul] at this
   omega
  have h3:=Nat.lt_of_mul_lt_mul_right (Nat.lt_of_le_of_lt h1 h2)
  omega
 obtain ⟨hd,hhd⟩:∃ h,h=u0 * 1000000000+u1:=⟨_,rfl⟩
 have hhz:((u0:Int) * 1000000000+u1)=(hd:Int):=by omega
 have hdl:hd < 1000000000000000000:=by omega
 rw [← hhd] at hWe
 generalize hWd:valB (us.drop lo)=W at hW hWn hWe
 refine Zaa Tryz.func68 rfl Tryz.ntmps68 rfl ?_
 repeat' first|refine Kz ?_|intro _
 refine Zbb (.take 0 (.take 1 (.take 2 (.take 3 (.take 4 (.take 5 (.take 6 (.take 7 (.take 8 (.take 9 (.take 10 (.take 11 (.take 12 (.take 13 (.done))))))))))))))) ?_
 repeat' first|refine Kf ?_|intro _|constructor
 rw [hhz]
 refine Zbb (.take 0 (.take 1 (.take 2 (.take 3 (.take 4 (.take 5 (.take 6 (.take 7 (.done))))))))) ?_
 repeat' first|refine Kf ?_|intro _|constructor
 have hq1:((hd:Int) / (v1:Int))=((hd / v1:Nat):Int):=(Int.natCast_ediv _ _).symm
 have hr1:((hd:Int) % (v1:Int))=((hd % v1:Nat):Int):=(Int.natCast_emod _ _).symm
 rw [hq1,hr1]
 have hv10:0 < v1:=by omega
 have hqt:W / b < 1000000000:=Nat.div_lt_of_lt_mul (by rw [Nat.mul_comm];exact hW)
 have hstop:∀ q r,q * v1+r=hd→q≤1000000000→1000000000≤r→q≤W / b:=fun q r h1 h2 h3=>Zob (B:=1000000000) hb0 hV hVl hv29 hWe h1 h2 h3
 have hexit:∀ q r,q * v1+r=hd→q < 1000000000→q * v2≤r * 1000000000+u2→q≤W / b+1:=fun q r h1 h2 h3=>Zoe (B:=1000000000) hv10 hV hVl hWe h1 h2 h3
 have hdec:∀ q r,q * v1+r=hd→r * 1000000000+u2 < q * v2→W / b < q:=fun q r h1 h2=>Zp3 (B:=1000000000) hV hWe hWl h1 h2
 have hini:W / b≤hd / v1:=Zod (B:=1000000000) hv10 hV hWe hWl hu29 (by omega)
 have hfst:hd / v1≤1000000000+1:=Zmh (B:=1000000000) hhd.symm hu19 hv29 hVl hV hWe hW hv1h (by omega)
 have hsum:hd / v1 * v1+hd % v1=hd:=Nat.div_add_mod' hd v1
 have hrl:hd % v1 < v1:=Nat.mod_lt _ hv10
 generalize htq:W / b=tq at hqt hstop hexit hdec hini
 refine Tri.midB (fun e' As'=>∃ q,q < 1000000000∧tq≤q∧q≤tq+1∧e'=[(0,subV 1 vu lo (lo+(mag b).length+1)),(1,v),(5,.int .i64 (mag b).length),(8,.int .u64 (q:Int))]∧As'=.ow (cN .u32) 75 vu us::As) ?_ ?_
 ·refine Tri.loop (ι:=Nat × Nat) (fun s=>s.1 * v1+s.2=hd∧tq≤s.1∧s.1≤1000000001∧s.2 < 1000000000) (fun s=>s.1)
   (fun s=>[(0,subV 1 vu lo (lo+(mag b).length+1)),(1,v),(5,.int .i64 (mag b).length),(6,.int .u64 (v1:Int)),(8,.int .u64 (s.1:Int)),(9,.int .u64 (s.2:Int))]) (fun _=>.ow (cN .u32) 75 vu us::As)
   (hd / v1,hd % v1) ⟨hsum,hini,hfst,by simp only;omega⟩ Zag Zab ?_
  rintro ⟨q,r⟩ ⟨hqr,hqW,hqB,hrB⟩
  simp only at hqr hqW hqB hrB
  show Tri _ _ _ _ [(0,subV 1 vu lo (lo+(mag b).length+1)),(1,v),(5,.int .i64 (mag b).length),(6,.int .u64 (v1:Int)),(8,.int .u64 (q:Int)),(9,.int .u64 (r:Int))] (.ow (cN .u32) 75 vu us::As) _
  have hqv:q * v2≤1000000001 * 999999999:=Nat.mul_le_mul hqB (by omega)
  have hqvz:(q:Int) * (v2:Int)=((q * v2:Nat):Int):=(Int.natCast_mul _ _).symm
  have hnext:tq < q→∃ q',q=q'+1∧tq≤q'∧q' * v1+(r+v1)=hd:=fun h=>by
   obtain ⟨q',rfl⟩:∃ q',q=q'+1:=⟨q - 1,by omega⟩
   rw [Nat.add_mul,Nat.one_mul] at hqr
   exact ⟨q',rfl,by omega,by omega⟩
  repeat' first|refine Kz ?_|intro _
  have hl2:(((mag b).length:Int) - 2)=(((mag b).length - 2:Nat):Int):=by omega
  by_cases hq0:(1000000000:Int)≤q
  ·obtain ⟨q',h1,h2,h3⟩:=hnext (by omega)
   subst h1
   refine Zbb (.take 0 (.take 1 (.take 2 (.take 3 (.take 4 (.take 5 (.take 6 (.take 7 (.take 8 (.take 9 (.take 10 (.take 11 (.take 12 (.take 13 (.take 14 (.take 15 (.take 16 (.take 17 (.take 18 (.take 19 (.take 20 (.take 21 (.done))))))))))))))))))))))) ?_
   repeat' first|refine Kf ?_|intro _|constructor
   (refine Kx (fun hc=>?_) fun hc=>?_)
   ·repeat' first|refine Kf ?_|intro _|constructor
    have h6:=hstop q' (r+v1) h3 (by omega) (by omega)
    exact Za4 _ _ ⟨q',by omega,h2,by omega,rfl,rfl⟩ Zag Zab
   ·repeat' first|refine Kf ?_|intro _|constructor
    exact Post.round (q',r+v1) ⟨h3,h2,by simp only;omega,by simp only;omega⟩ (by simp only;omega) Zag Zab
  ·by_cases hgt:(r:Int) * 1000000000+u2 < (q:Int) * v2
   ·obtain ⟨q',h1,h2,h3⟩:=hnext (hdec q r hqr (by omega))
    subst h1
    refine Zbb (.take 0 (.take 1 (.take 2 (.take 3 (.take 4 (.take 5 (.take 6 (.take 7 (.take 8 (.take 9 (.take 10 (.take 11 (.take 12 (.take 13 (.take 14 (.take 15 (.take 16 (.take 17 (.take 18 (.take 19 (.take 20 (.take 21 (.done))))))))))))))))))))))) ?_
    repeat' first|refine Kf ?_|intro _|constructor
    rw [hl2]
    repeat' first|refine Kf ?_|intro _|constructor
    rw [hl2]
    repeat' first|refine Kf ?_|intro _|constructor
    (refine Kx (fun hc=>?_) fun hc=>?_)
    ·repeat' first|refine Kf ?_|intro _|constructor
     have h6:=hstop q' (r+v1) h3 (by omega) (by omega)
     exact Za4 _ _ ⟨q',by omega,h2,by omega,rfl,rfl⟩ Zag Zab
    ·repeat' first|refine Kf ?_|intro _|constructor
     exact Post.round (q',r+v1) ⟨h3,h2,by simp only;omega,by simp only;omega⟩ (by simp only;omega) Zag Zab
   ·refine Zbb (.take 0 (.take 1 (.take 2 (.take 3 (.take 4 (.take 5 (.take 6 (.take 7 (.take 8 (.take 9 (.take 10 (.take 11 (.take 12 (.take 13 (.take 14 (.take 15 (.take 16 (.take 17 (.take 18 (.take 19 (.take 20 (.take 21 (.done))))))))))))))))))))))) ?_
    repeat' first|refine Kf ?_|intro _|constructor
    rw [hl2]
    repeat' first|refine Kf ?_|intro _|constructor
    rw [hl2]
    repeat' first|refine Kf ?_|intro _|constructor
    exact Za4 _ _ ⟨q,by omega,hqW,hexit q r hqr (by omega) (by omega),rfl,rfl⟩ Zag Zab
 rintro _ _ ⟨q,hqB,hqW,hq1,rfl,hBs⟩
 subst hBs
 clear hini hfst hsum hrl hdec hexit hstop
 repeat' first|refine Kz ?_|intro _
 refine Tri.loop (ι:=Nat × List Nat × Nat × Nat) (fun s=>s.1≤(mag b).length∧s.2.1.length=us.length∧(∀ x∈s.2.1,x < 1000000000)∧s.2.2.1 < 1000000000∧s.2.2.2≤1∧s.2.1.drop (lo+s.1)=us.drop (lo+s.1)∧s.2.1.take lo=us.take lo∧valB (s.2.1.drop lo)+q * valB ((mag b).take s.1)=W+1000000000 ^ s.1 * (s.2.2.1+s.2.2.2)) (fun s=>(mag b).length - s.1)
  (fun s=>[(0,subV 1 vu lo (lo+(mag b).length+1)),(1,v),(5,.int .i64 (mag b).length),(8,.int .u64 (q:Int)),(10,.int .u64 (s.2.2.1:Int)),(11,.int .i64 (s.2.2.2:Int)),(75,v),(76,.int .i64 (mag b).length),(77,.int .i64 (s.1:Int))]) (fun s=>.ow (cN .u32) 75 vu s.2.1::As)
  (0,us,0,0) ⟨by omega,rfl,hus,by simp only;omega,by simp only;omega,rfl,rfl,by simp [valB,hWd]⟩ Zag Zab ?_
 rintro ⟨i,xs,c,bo⟩ ⟨hi,hxl,hxs,hc9,hbo,hxd,hxt,hval⟩
 simp only at hi hxl hxs hc9 hbo hxd hxt hval
 show Tri _ _ _ _ [(0,subV 1 vu lo (lo+(mag b).length+1)),(1,v),(5,.int .i64 (mag b).length),(8,.int .u64 (q:Int)),(10,.int .u64 (c:Int)),(11,.int .i64 (bo:Int)),(75,v),(76,_),(77,.int .i64 (i:Int))] (.ow (cN .u32) 75 vu xs::As) _
 repeat' first|refine Kz ?_|intro _
 (refine Kx (fun hc=>?_) fun hc=>?_)
 ·obtain ⟨d,hd'⟩:∃ d,(mag b)[i]?=some d:=⟨_,List.getElem?_eq_getElem (by omega)⟩
  have hd9:=hsb d (List.mem_of_getElem? hd')
  have htb:=Zaq hd'
  obtain ⟨p,hp⟩:∃ p,xs[lo+i]?=some p:=⟨_,List.getElem?_eq_getElem (by omega)⟩
  have hp9:=hxs p (List.mem_of_getElem? hp)
  have hqd:q * d≤999999999 * 999999999:=Nat.mul_le_mul (by omega) (by omega)
  obtain ⟨t,ht⟩:∃ t,t=c+q * d:=⟨_,rfl⟩
  have htz:(c:Int)+(q:Int) * (d:Int)=(t:Int):=by rw [ht,Int.natCast_add,Int.natCast_mul]
  have hnew:∀ g b',g+t % 1000000000+bo=p+1000000000 * b'→valB ((xs.set (lo+i) g).drop lo)+q * valB ((mag b).take (i+1))=W+1000000000 ^ (i+1) * (t / 1000000000+b'):=fun g b' h=>by
   rw [htb,Nat.mul_add,Nat.mul_left_comm,Nat.pow_succ,ht]
   exact Zl6 (Zdn hp) hval (by rw [← ht];exact h)
  have hxd':∀ g,(xs.set (lo+i) g).drop (lo+(i+1))=us.drop (lo+(i+1)):=fun g=>by
   rw [List.drop_set_of_lt (by omega),show lo+(i+1)=(lo+i)+1 by omega,← List.drop_drop,hxd,List.drop_drop]
  have hxt':∀ g,(xs.set (lo+i) g).take lo=us.take lo:=fun g=>by rw [List.take_set_of_le (by omega),hxt]
  repeat' first|refine Kz ?_|intro _
  rw [htz]
  repeat' first|refine Kz ?_|intro _
  (refine Kx (fun hc=>?_) fun hc=>?_)
  ·have e9:((p:Int) - bo - (t:Int) % 1000000000+1000000000)=((p+1000000000 - bo - t % 1000000000:Nat):Int):=by omega
   repeat' first|refine Kz ?_|intro _
   rw [e9]
   repeat' first|refine Kz ?_|intro _
   exact Post.round (i+1,xs.set (lo+i) (p+1000000000 - bo - t % 1000000000),t / 1000000000,1) ⟨by simp only;omega,by simpa using hxl,Zat hxs (by omega),by simp only;omega,Nat.le_refl 1,hxd' _,hxt' _,hnew _ 1 (by omega)⟩ (by simp only;omega) Zag Zab
  ·have e9:((p:Int) - bo - (t:Int) % 1000000000)=((p - bo - t % 1000000000:Nat):Int):=by omega
   repeat' first|refine Kz ?_|intro _
   rw [e9]
   repeat' first|refine Kz ?_|intro _
   exact Post.round (i+1,xs.set (lo+i) (p - bo - t % 1000000000),t / 1000000000,0) ⟨by simp only;omega,by simpa using hxl,Zat hxs (by omega),by simp only;omega,Nat.zero_le 1,hxd' _,hxt' _,hnew _ 0 (by omega)⟩ (by simp only;omega) Zag Zab
 have hie:i=(mag b).length:=by omega
 subst hie
 rw [Zal (Nat.le_refl _),Za2] at hval
 have hat:∀ ys:List Nat,ys.drop (lo+(mag b).length)=us.drop (lo+(mag b).length)→ys[lo+(mag b).length]?=some u0∧valB (ys.drop lo)=valB ((ys.drop lo).take (mag b).length)+1000000000 ^ (mag b).length * u0:=fun ys h=>by
  have h1:ys[lo+(mag b).length]?=some u0:=by
   rw [← hu0]
   have h2:=congrArg (fun l:List Nat=>l[0]?) h
   simpa [List.getElem?_drop] using h2
  refine ⟨h1,Zmm (by rw [List.getElem?_drop];exact h1) ?_⟩
  rw [List.drop_drop,show lo+((mag b).length+1)=(lo+(mag b).length)+1 by omega,← List.drop_drop,h,List.drop_drop]
  rw [List.drop_drop] at hhigh
  rw [show lo+(mag b).length+1=lo+(m+3) by omega]
  exact hhigh
 have hlow:∀ ys:List Nat,ys.length=us.length→(∀ x∈ys,x < 1000000000)→valB ((ys.drop lo).take (mag b).length) < 1000000000 ^ (mag b).length:=fun ys h1 h2=>by
  have:=Zcr (xs:=(ys.drop lo).take (mag b).length) fun x hx=>h2 x (List.mem_of_mem_drop (List.mem_of_mem_take hx))
  rwa [List.length_take,List.length_drop,Nat.min_eq_left (by omega)] at this
 obtain ⟨hx0,hxv⟩:=hat xs hxd
 have hxL:=hlow xs hxl hxs
 have hbP:b < 1000000000 ^ (mag b).length:=Zah b
 have hzero:∀ ys:List Nat,ys[lo+(mag b).length]?=some u0→valB (ys.drop lo)=valB ((ys.drop lo).take (mag b).length)+1000000000 ^ (mag b).length * u0→valB ((ys.set (lo+(mag b).length) 0).drop lo)=valB ((ys.drop lo).take (mag b).length):=fun ys h1 h2=>by
  have:=Zdn (lo:=lo) (i:=(mag b).length) (g:=0) h1
  omega
 rw [hxv] at hval
 repeat' first|refine Kz ?_|intro _
 (refine Kx (fun hc=>?_) fun hc=>?_)
 ·have hq0:0 < q:=by
   rcases Nat.eq_zero_or_pos q with h|h
   ·exfalso
    subst h
    have:=Nat.mul_le_mul_left (1000000000 ^ (mag b).length) (show u0+1≤c+bo by omega)
    rw [Nat.mul_add,Nat.mul_one] at this
    omega
   ·exact h
  repeat' first|refine Kz ?_|intro _
  refine Tri.loop (ι:=Nat × List Nat × Nat) (fun s=>s.1≤(mag b).length∧s.2.1.length=us.length∧(∀ x∈s.2.1,x < 1000000000)∧s.2.2≤1∧s.2.1.drop (lo+(mag b).length)=us.drop (lo+(mag b).length)∧s.2.1.take lo=us.take lo∧valB (s.2.1.drop lo)+1000000000 ^ s.1 * s.2.2=valB (xs.drop lo)+valB ((mag b).take s.1)) (fun s=>(mag b).length - s.1)
   (fun s=>[(0,subV 1 vu lo (lo+(mag b).length+1)),(5,.int .i64 (mag b).length),(8,.int .u64 ((q - 1:Nat):Int)),(15,.int .u32 (s.2.2:Int)),(123,v),(124,.int .i64 (mag b).length),(125,.int .i64 (s.1:Int))]) (fun s=>.ow (cN .u32) 75 vu s.2.1::As)
   (0,xs,0) ⟨by simp only;omega,hxl,hxs,by simp only;omega,hxd,hxt,by simp [valB]⟩ Zag Zab ?_
  rintro ⟨i,ys,o⟩ ⟨hi,hyl,hys,ho,hyd,hyt,hyv⟩
  simp only at hi hyl hys ho hyd hyt hyv
  show Tri _ _ _ _ [(0,subV 1 vu lo (lo+(mag b).length+1)),(5,.int .i64 (mag b).length),(8,.int .u64 ((q - 1:Nat):Int)),(15,.int .u32 (o:Int)),(123,v),(124,_),(125,.int .i64 (i:Int))] (.ow (cN .u32) 75 vu ys::As) _
  repeat' first|refine Kz ?_|intro _
  (refine Kx (fun hc=>?_) fun hc=>?_)
  ·obtain ⟨d,hd'⟩:∃ d,(mag b)[i]?=some d:=⟨_,List.getElem?_eq_getElem (by omega)⟩
   have hd9:=hsb d (List.mem_of_getElem? hd')
   have htb:=Zaq hd'
   obtain ⟨p,hp⟩:∃ p,ys[lo+i]?=some p:=⟨_,List.getElem?_eq_getElem (by omega)⟩
   have hp9:=hys p (List.mem_of_getElem? hp)
   have hnew:∀ g o',g+1000000000 * o'=p+d+o→valB ((ys.set (lo+i) g).drop lo)+1000000000 ^ (i+1) * o'=valB (xs.drop lo)+valB ((mag b).take (i+1)):=fun g o' h=>by
    rw [htb,Nat.pow_succ]
    exact Zm1 (Zdn hp) hyv h
   have hyd':∀ g,(ys.set (lo+i) g).drop (lo+(mag b).length)=us.drop (lo+(mag b).length):=fun g=>by rw [List.drop_set_of_lt (by omega),hyd]
   have hyt':∀ g,(ys.set (lo+i) g).take lo=us.take lo:=fun g=>by rw [List.take_set_of_le (by omega),hyt]
   repeat' first|refine Kz ?_|intro _
   (refine Kx (fun hc=>?_) fun hc=>?_)
   ·have e9:((p:Int)+d+o - 1000000000)=((p+d+o - 1000000000:Nat):Int):=by omega
    repeat' first|refine Kz ?_|intro _
    rw [e9]
    repeat' first|refine Kz ?_|intro _
    exact Post.round (i+1,ys.set (lo+i) (p+d+o - 1000000000),1) ⟨by simp only;omega,by simpa using hyl,Zat hys (by omega),Nat.le_refl 1,hyd' _,hyt' _,hnew _ 1 (by omega)⟩ (by simp only;omega) Zag Zab
   ·have e9:((p:Int)+d+o)=((p+d+o:Nat):Int):=by omega
    rw [e9]
    repeat' first|refine Kz ?_|intro _
    exact Post.round (i+1,ys.set (lo+i) (p+d+o),0) ⟨by simp only;omega,by simpa using hyl,Zat hys (by omega),Nat.zero_le 1,hyd' _,hyt' _,hnew _ 0 (by omega)⟩ (by simp only;omega) Zag Zab
  ·have hie:i=(mag b).length:=by omega
   subst hie
   obtain ⟨hy0,hyw⟩:=hat ys hyd
   rw [Zal (Nat.le_refl _),Za2,hyw,hxv] at hyv
   obtain ⟨k1,k2⟩:=Zoc (o:=o) hxL hbP hval (by omega) (by rw [htq];exact hq1) hb0 (by omega) (hlow ys hyl hys)
   repeat' first|refine Kz ?_|intro _
   (refine Zad ?_)
   refine ⟨_,⟨ys.set (lo+(mag b).length) 0,?_,by simpa using hyl,Zat hys (by omega),?_,by rw [List.take_set_of_le (by omega),hyt],rfl⟩,Zab⟩
   ·rw [hWd,k1];rfl
   ·rw [hzero ys hy0 hyw,k2,hWd]
 ·repeat' first|refine Kz ?_|intro _
  obtain ⟨k1,k2⟩:=Zmg hxL hbP hval (by omega) (by rw [htq];exact hqW) hb0
  (refine Zad ?_)
  refine ⟨_,⟨xs.set (lo+(mag b).length) 0,?_,by simpa using hxl,Zat hxs (by omega),?_,by rw [List.take_set_of_le (by omega),hxt],rfl⟩,Zab⟩
  ·rw [hWd,k1]
  ·rw [hzero xs hx0 hxv,k2,hWd]
end Go.Proofs.YtaipdafohfmkcaaGreatDoor
namespace Go.Proofs.YtaipdafohfmkcaaGreatDoor
open Go Go.Sx
variable {w0:World} {As:List Ent}
def DivR (As:List Ent) (q r:Nat) (u:Value) (Bs:List Ent):Prop:=∃ p cap p' cap',u=.tuple #[.slice p (mag q).length cap,.slice p' (mag r).length cap']∧Bs=.ft (rd (cN .u32) (.slice p (mag q).length cap) (mag q))::.ft (rd (cN .u32) (.slice p' (mag r).length cap') (mag r))::As
theorem Zqd {b:Nat} (h:(mag b).length=1):b < 1000000000∧(mag b)[0]?=some b:=by
 have h1:=Zah b
 rw [h,Nat.pow_one] at h1
 refine ⟨h1,?_⟩
 have hb:b≠0:=fun h0=>by rw [h0,Zai] at h;cases h
 rw [Zb3 hb,List.getElem?_cons_zero,Nat.mod_eq_of_lt h1]
theorem Zem {s:Nat} (h0:0 < s) (h:s < 1000000000):mag s=[s]:=by
 rw [Zb3 (by omega),Nat.mod_eq_of_lt h,Nat.div_eq_of_lt h,Zai]
theorem Zfs {v o:Value} {a b:Nat} [hf:FtIn As v Nat (cN .u32) (mag a)] [hg:RdIn As o Nat (cN .u32) (mag b)] (hb0:b≠0) (ha:(mag a).length≤10000000) (hbl:(mag b).length≤100000000):CallsS Tryz.prog w0 40 [v,o] As (DivR As (a / b) (a % b)):=by
 refine Zap v fun pv cv hv=>?_
 have hsa:=Zaz a
 have hsb:=Zaz b
 by_cases hlt:a < b
 ·rw [Nat.div_eq_of_lt hlt,Nat.mod_eq_of_lt hlt]
  subst hv
  have hla:=Zao (Nat.le_of_lt hlt)
  refine Zaa Tryz.func40 rfl Tryz.ntmps40 rfl ?_
  repeat' first|refine Kz ?_|intro _
  refine Kt rfl (Zde (a:=a) (b:=b) (by omega) hbl) ?_
  have hcmp:Lib.compareInt a b < 0:=Zti.2 hlt
  repeat' first|refine Kz ?_|intro _
  (refine Zad ?_)
  exact ⟨_,⟨none,0,pv,cv,by rw [Zai];rfl,rfl⟩,by rw [Zai];exact Ents.trans Zff (Ents.trans (Zc5 (T:=75) (cN .u32)) Ents.freeze)⟩
 have hba:b≤a:=by omega
 have hlb:=Zao hba
 have hbl0:(mag b).length≠0:=fun h=>hb0 (Zok.1 h)
 refine Zaa Tryz.func40 rfl Tryz.ntmps40 rfl ?_
 repeat' first|refine Kz ?_|intro _
 refine TL.call rfl rfl rfl (Zde (a:=a) (b:=b) (by omega) (by omega)) ?_
 rintro _ As ⟨rfl,rfl⟩
 have hcmp:¬ Lib.compareInt a b < 0:=fun h=>hlt (Zti.1 h)
 repeat' first|refine Kz ?_|intro _
 by_cases h1:(mag b).length=1
 ·obtain ⟨hb9,hbg⟩:=Zqd h1
  repeat' first|refine Kz ?_|intro _
  refine TL.call rfl rfl rfl (Zg6 (a:=a) (d:=b) (by omega) (by omega) (by omega)) ?_
  rintro _ _ ⟨p,cap,rfl,rfl⟩
  have hr9:a % b < b:=Nat.mod_lt _ (by omega)
  repeat' first|refine Kz ?_|intro _
  refine TL.call rfl rfl rfl (Zcz (n:=a % b) (by omega)) ?_
  rintro _ _ ⟨p',cap',rfl,rfl⟩
  repeat' first|refine Kz ?_|intro _
  (refine Zad ?_)
  exact ⟨_,⟨p,cap,p',cap',rfl,rfl⟩,Zab⟩
 obtain ⟨m,hm⟩:∃ m,(mag b).length=m+2:=⟨(mag b).length - 2,by omega⟩
 obtain ⟨t,ht⟩:∃ t,(mag b)[(mag b).length - 1]?=some t:=⟨_,List.getElem?_eq_getElem (by omega)⟩
 obtain ⟨g1,g2,g3⟩:=Zb4 ht
 have hlast:b / 1000000000 ^ ((mag b).length - 1+1)=0:=by
  rw [show (mag b).length - 1+1=(mag b).length by omega]
  exact Nat.div_eq_of_lt (Zah b)
 rw [hlast,Nat.mul_zero,Nat.add_zero,show (mag b).length - 1=m+1 by omega] at g1
 rw [show (mag b).length - 1=m+1 by omega,g1] at g2
 have hP:0 < 1000000000 ^ (m+1):=Nat.pow_pos (by omega)
 have hlo:t * 1000000000 ^ (m+1)≤b:=by rw [← g1];exact Nat.div_mul_le_self _ _
 have hhi:b < (t+1) * 1000000000 ^ (m+1):=by rw [← g1,Nat.mul_comm];exact Nat.lt_mul_div_succ b hP
 obtain ⟨hs1,hs2⟩:=Zmb (by omega) g3 hlo hhi
 obtain ⟨_,_,hs3⟩:=Zgj (by omega) g3
 have hs9:1000000000 / (t+1) < 1000000000:=by
  rw [Nat.div_lt_iff_lt_mul (by omega)];omega
 have hqz:(1000000000:Int) / ((t:Int)+1)=((1000000000 / (t+1):Nat):Int):=by rw [Int.natCast_ediv];rfl
 repeat' first|refine Kz ?_|intro _
 rw [hqz]
 generalize 1000000000 / (t+1)=s at hs1 hs2 hs3 hs9 hqz ⊢
 have hmag1:=Zem hs3 hs9
 have hVl:(mag (b * s)).length=m+2:=by
  have e1:=Zcb hs2
  have e2:=Zao (show b≤b * s from Nat.le_mul_of_pos_right _ hs3)
  omega
 have hUl:(mag (a * s)).length≤(mag a).length+1:=by
  have:=Zch a s
  rw [hmag1] at this
  simpa using this
 have hV0:0 < b * s:=Nat.mul_pos (by omega) hs3
 have hfl:∀ {x:Nat},x=s→[Value.int .u32 (x:Int)]=(cN .u32).flat (mag s):=fun h=>by rw [hmag1,h];rfl
 repeat' first|refine Kz ?_|intro _
 refine TL.ents (Zeg (cN .u32) (mag s) (hfl rfl) (by rw [hmag1]) (by rw [hmag1])) ?_
 refine TL.call rfl rfl rfl (Zd1 (a:=b) (b:=s) (by omega) (by rw [hmag1];simp)) ?_
 rintro _ _ ⟨pV,cV,rfl,rfl⟩
 have hl1:(((mag a).length:Int)+1)=(((mag a).length+1:Nat):Int):=by omega
 repeat' first|refine Kz ?_|intro _
 rw [hl1]
 repeat' first|refine Kz ?_|intro _
 rename_i uv _
 refine TL.ents (Zeg (cN .u32) (mag s) (hfl rfl) (by rw [hmag1]) (by rw [hmag1])) ?_
 refine TL.call rfl rfl rfl (Zd1 (a:=a) (b:=s) (by omega) (by rw [hmag1];simp)) ?_
 rintro _ _ ⟨pU,cU,rfl,rfl⟩
 have hU0:(mag (a * s)).length≤(List.replicate ((mag a).length+1) 0).length:=by rw [List.length_replicate];exact hUl
 refine Zna rfl rfl (Znr (c:=cN .u32) rfl rfl rfl hU0) ?_
 rintro _ _ ⟨rfl,rfl⟩
 obtain ⟨us0,hus0⟩:∃ us0,us0=mag (a * s)++(List.replicate ((mag a).length+1) 0).drop (mag (a * s)).length:=⟨_,rfl⟩
 rw [← hus0]
 have husl:us0.length=(mag a).length+1:=by rw [hus0];simp;omega
 have husv:valB us0=a * s:=by rw [hus0,List.drop_replicate,Zbd,Zbk,Za2];omega
 have huss:∀ x∈us0,x < 1000000000:=fun x hx=>by
  rw [hus0,List.drop_replicate] at hx
  rcases List.mem_append.1 hx with h|h
  ·exact Zaz _ x h
  ·exact Zcs _ x h
 clear hus0
 have hl2:(((mag a).length:Int) - (mag (b * s)).length+1)=(((mag a).length - (mag (b * s)).length+1:Nat):Int):=by omega
 repeat' first|refine Kz ?_|intro _
 rw [hl2]
 repeat' first|refine Kz ?_|intro _
 rename_i qv
 have hVb:1000000000 ^ ((mag (b * s)).length - 1)≤b * s:=Zbf (by omega)
 have hUV:a * s < 1000000000 ^ ((mag a).length - (mag (b * s)).length+1) * (b * s):=by
  have e1:=Zah a
  have e2:a * s < 1000000000 ^ (mag a).length * s:=Nat.mul_lt_mul_of_pos_right e1 hs3
  have e3:1000000000 ^ (m+1)≤b:=by
   have:=Nat.mul_le_mul_right (1000000000 ^ (m+1)) (show 1≤t by omega)
   omega
  refine Nat.lt_of_lt_of_le e2 ?_
  rw [hVl,show (mag a).length=((mag a).length - (m+2)+1)+(m+1) by omega,Nat.pow_add,show ((mag a).length - (m+2)+1)+(m+1) - (m+2)+1=(mag a).length - (m+2)+1 by omega,Nat.mul_assoc]
  exact Nat.mul_le_mul_left _ (Nat.mul_le_mul_right _ e3)
 have hqr:(List.replicate ((mag a).length - (mag (b * s)).length+1) 0).length=(mag a).length - (mag (b * s)).length+1:=List.length_replicate
 have hdl:valB (us0.drop ((mag a).length - (mag (b * s)).length+1)) < b * s:=by
  have e1:=Zau us0 ((mag a).length - (mag (b * s)).length+1)
  rw [List.length_take,Nat.min_eq_left (by omega),husv] at e1
  exact Nat.lt_of_mul_lt_mul_left (a:=1000000000 ^ ((mag a).length - (mag (b * s)).length+1)) (by omega)
 refine Tri.loop (ι:=Nat × List Nat × List Nat) (fun x=>x.1≤(mag a).length - (mag (b * s)).length+1∧x.2.1.length=(mag a).length - (mag (b * s)).length+1∧(∀ y∈x.2.1,y < 1000000000)∧x.2.2.length=(mag a).length+1∧(∀ y∈x.2.2,y < 1000000000)∧valB (x.2.2.drop x.1) < b * s∧valB x.2.2+1000000000 ^ x.1 * (b * s * valB (x.2.1.drop x.1))=a * s) (fun x=>x.1)
  (fun x=>[(4,qv),(8,.int .u32 (s:Int)),(9,.slice pV (mag (b * s)).length cV),(10,uv),(11,.int .i64 (mag (b * s)).length),(12,.int .i64 ((x.1:Int) - 1))])
  (fun x=>.ow (cN .u32) 75 qv x.2.1::.ow (cN .u32) 75 uv x.2.2::.ft (rd (cN .u32) (.slice pV (mag (b * s)).length cV) (mag (b * s)))::As)
  ((mag a).length - (mag (b * s)).length+1,List.replicate ((mag a).length - (mag (b * s)).length+1) 0,us0)
  ⟨Nat.le_refl _,hqr,Zcs _,husl,huss,hdl,by simp [valB,husv]⟩ (by rw [show (((mag a).length - (mag (b * s)).length+1:Nat):Int) - 1=((mag a).length:Int) - (mag (b * s)).length by omega];(exact Zag)) Zab ?_
 rintro ⟨j,qs,us⟩ ⟨hj,hql,hqs,hul,hus,hlow,hval⟩
 simp only at hj hql hqs hul hus hlow hval
 cases j with
 | zero =>
  rw [List.drop_zero] at hlow hval
  rw [Nat.pow_zero,Nat.one_mul] at hval
  show Tri _ _ _ _ [(4,qv),(8,.int .u32 (s:Int)),(9,.slice pV (mag (b * s)).length cV),(10,uv),(11,.int .i64 (mag (b * s)).length),(12,.int .i64 (((0:Nat):Int) - 1))] (.ow (cN .u32) 75 qv qs::.ow (cN .u32) 75 uv us::.ft (rd (cN .u32) (.slice pV (mag (b * s)).length cV) (mag (b * s)))::As) _
  rw [show ((0:Nat):Int) - 1=-1 from rfl]
  obtain ⟨k1,k2⟩:=Zgt (a:=a * s) (d:=b * s) (q:=valB qs) (r:=valB us) (by rw [Nat.mul_comm (valB qs)];omega) hlow
  rw [Nat.mul_div_mul_right _ _ (by omega)] at k1
  rw [Nat.mul_mod_mul_right] at k2
  have hut:valB (us.take (mag (b * s)).length)=a % b * s:=by
   have e1:=Zau us (mag (b * s)).length
   rw [Zhv (k:=(mag (b * s)).length) (Nat.lt_trans hlow (Zah _)),Nat.mul_zero,Nat.add_zero] at e1
   rw [e1,← k2]
  have hlen:(mag (a % b * s)).length≤100000000:=by
   have e1:=Zch (a % b) s
   have e2:=Zao (Nat.mod_le a b)
   rw [hmag1] at e1
   simp at e1
   omega
  repeat' first|refine Kz ?_|intro _
  refine TL.ents Ents.freeze ?_
  rw [show (us.drop 0).take ((mag (b * s)).length - 0)=us.take (mag (b * s)).length by simp]
  refine TL.call rfl rfl rfl (Zeh (xs:=us.take (mag (b * s)).length) (fun x hx=>hus x (List.mem_of_mem_take hx)) (by simp;omega)) ?_
  rintro _ _ ⟨pr,cr,rfl,rfl⟩
  rw [hut]
  repeat' first|refine Kz ?_|intro _
  refine TL.call rfl rfl rfl (Zg6 (a:=a % b * s) (d:=s) hlen (by omega) (by omega)) ?_
  rintro _ _ ⟨pr2,cr2,rfl,rfl⟩
  rw [Nat.mul_div_cancel _ (show 0 < s by omega)]
  repeat' first|refine Kz ?_|intro _
  refine Zhk (.ow (cN .u32) 75 qv qs) ?_
  refine TL.ents Ents.freeze ?_
  refine TL.call rfl rfl rfl (Zeh hqs (by omega)) ?_
  rintro _ _ ⟨pq,cq,rfl,rfl⟩
  rw [← k1]
  repeat' first|refine Kz ?_|intro _
  (refine Zad ?_)
  exact ⟨_,⟨pq,cq,pr2,cr2,rfl,rfl⟩,Zab⟩
 | succ j =>
  show Tri _ _ _ _ [(4,qv),(8,.int .u32 (s:Int)),(9,.slice pV (mag (b * s)).length cV),(10,uv),(11,.int .i64 (mag (b * s)).length),(12,.int .i64 (((j+1:Nat):Int) - 1))] (.ow (cN .u32) 75 qv qs::.ow (cN .u32) 75 uv us::.ft (rd (cN .u32) (.slice pV (mag (b * s)).length cV) (mag (b * s)))::As) _
  rw [show ((j+1:Nat):Int) - 1=(j:Int) by omega]
  obtain ⟨u,hu⟩:∃ u,us[j]?=some u:=⟨_,List.getElem?_eq_getElem (by omega)⟩
  have hW:valB (us.drop j) < 1000000000 * (b * s):=by
   rw [Zdz hu]
   exact Zor (hus u (List.mem_of_getElem? hu)) hlow
  have hW9:valB (us.drop j) / (b * s) < 1000000000:=Nat.div_lt_of_lt_mul (by rw [Nat.mul_comm];exact hW)
  (repeat' (first|((show TL _ _ _ _ (_::_) _ _ _;first|refine Zjm ?_|refine Zjk ?_|(refine Zfv ?_;intro _)|refine Zdv ?_|refine Zcj ?_|refine Zjl ?_|fail))|(refine Stp.h ?_)|((show Tri _ _ _ (.cond _ _ _) _ _ _;first|refine Zdt ?_|refine Zdu ?_|refine Zbg ?_|refine Zbh ?_|refine Za6 ?_|refine Za7 ?_|fail))))
  refine TL.f rfl rfl (Zf5 (lo:=j) (hi:=j+(mag (b * s)).length+1) rfl (Zc0 rfl) (Zc1 rfl) (by omega) (by omega)) ?_
  (repeat' (first|((show TL _ _ _ _ (_::_) _ _ _;first|refine Zjm ?_|refine Zjk ?_|(refine Zfv ?_;intro _)|refine Zdv ?_|refine Zcj ?_|refine Zjl ?_|fail))|(refine Stp.h ?_)|((show Tri _ _ _ (.cond _ _ _) _ _ _;first|refine Zdt ?_|refine Zdu ?_|refine Zbg ?_|refine Zbh ?_|refine Za6 ?_|refine Za7 ?_|fail))))
  refine Zhk (.ow (cN .u32) 75 uv us) ?_
  refine TL.call rfl rfl rfl (Zmf (us:=us) (b:=b * s) (lo:=j) hVl (by omega) (by omega) hus (by exact hs1) hW) ?_
  rintro _ _ ⟨us',rfl,hul',hus',hlow',ht',rfl⟩
  repeat' first|refine Kz ?_|intro _
  refine Post.round (j,qs.set j (valB (us.drop j) / (b * s)),us') ⟨by simp only;omega,by simpa using hql,Zat hqs hW9,by simp only;omega,hus',?_,?_⟩ (by simp only;omega) Zag Zab
  ·simp only
   rw [hlow']
   exact Nat.mod_lt _ hV0
  ·simp only
   have e1:=Zau us j
   have e2:=Zau us' j
   have hset:(qs.set j (valB (us.drop j) / (b * s)))[j]?=some (valB (us.drop j) / (b * s)):=by rw [List.getElem?_set,if_pos rfl,if_pos (by omega)]
   rw [List.length_take,Nat.min_eq_left (by omega)] at e1
   rw [List.length_take,Nat.min_eq_left (by omega),ht',hlow'] at e2
   rw [Zdz hset,List.drop_set_of_lt (by omega),← e2]
   rw [← e1,Nat.pow_succ] at hval
   exact Zoq hval
end Go.Proofs.YtaipdafohfmkcaaGreatDoor
namespace Go.Sx
open Go
theorem Zen (x k:Nat):(mag (x ^ k)).length≤(mag x).length * k+1:=by
 refine Zcb ?_
 have h1:x ^ k≤(1000000000 ^ (mag x).length) ^ k:=Nat.pow_le_pow_left (Nat.le_of_lt (Zah x)) k
 rw [← Nat.pow_mul] at h1
 rw [Nat.pow_succ]
 have h2:0 < 1000000000 ^ ((mag x).length * k):=Nat.pow_pos (by omega)
 omega
theorem Zdm (n:Nat):n < 10 ^ Lib.nDigits n:=by
 have h:=Zb1 (l:=Lib.decDigits n) (Zje n)
 rwa [Zfm,Zb5] at h
theorem Zga (n:Nat):Lib.nDigits n≤9 * (mag n).length+1:=by
 by_cases h0:n=0
 ·subst h0;rw [Lib.nDigits_small (by decide)];omega
 ·have h3:(mag n).length≠0:=fun h=>h0 (Zok.1 h)
  obtain ⟨d,hd⟩:∃ d,(mag n)[(mag n).length - 1]?=some d:=⟨_,List.getElem?_eq_getElem (by omega)⟩
  obtain ⟨k1,k2,k3⟩:=Zb4 hd
  have hl0:n / 1000000000 ^ ((mag n).length - 1+1)=0:=by
   rw [show (mag n).length - 1+1=(mag n).length by omega]
   exact Nat.div_eq_of_lt (Zah n)
  rw [Zbw _ k2,k1,hl0,Nat.mul_zero,Nat.add_zero]
  have:=Za9 (k:=8) (r:=d) (by simpa using k3)
  omega
theorem Zi9 (a b:Nat):(mag (a+b)).length≤max (mag a).length (mag b).length+1:=by
 refine Zcb ?_
 have h1:=Nat.lt_of_lt_of_le (Zah a) (Nat.pow_le_pow_right (n:=1000000000) (by omega) (Nat.le_max_left (mag a).length (mag b).length))
 have h2:=Nat.lt_of_lt_of_le (Zah b) (Nat.pow_le_pow_right (n:=1000000000) (by omega) (Nat.le_max_right (mag a).length (mag b).length))
 rw [Nat.pow_succ]
 omega
theorem Zp0 (n:Nat):(List.replicate (n / 9+1) 0).set (n / 9) (10 ^ (n % 9))=mag (10 ^ n):=by
 have h0:(List.replicate (n / 9+1) 0)[n / 9]?=some 0:=by simp
 have h1:=Zdy (g:=10 ^ (n % 9)) h0
 rw [Zbk,Nat.mul_zero,Nat.add_zero,Nat.zero_add] at h1
 have h2:1000000000 ^ (n / 9) * 10 ^ (n % 9)=10 ^ n:=by
  rw [show (1000000000:Nat)=10 ^ 9 from rfl,← Nat.pow_mul,← Nat.pow_add,Nat.div_add_mod]
 have h3:10 ^ (n % 9)≤10 ^ 8:=Nat.pow_le_pow_right (by omega) (by omega)
 have h4:=Zmp (l:=(List.replicate (n / 9+1) 0).set (n / 9) (10 ^ (n % 9))) (Zat (Zcs _) (by omega)) (.inr (by
  rw [h1,List.length_set,List.length_replicate,Nat.add_sub_cancel]
  exact Nat.le_mul_of_pos_right _ (Nat.pow_pos (by omega))))
 rw [h4,h1,h2]
end Go.Sx
namespace Go.Proofs.YtaipdafohfmkcaaGreatDoor
open Go Go.Sx
variable {w0:World} {As:List Ent}
theorem Zro {v o:Value} {a b:Nat} [hf:FtIn As v Nat (cN .u32) (mag a)] [hg:FtIn As o Nat (cN .u32) (mag b)] (ha:(mag a).length≤10000000) (hb:(mag b).length≤10000000):CallsS Tryz.prog w0 77 [v,o] As (MagR As (Nat.gcd a b)):=by
 refine Zcy ?_
 refine Zaa Tryz.func77 rfl Tryz.ntmps77 rfl ?_
 repeat' first|refine Kz ?_|intro _
 refine Tri.loop (ι:=Value × Value × Nat × Nat) (fun s=>Nat.gcd s.2.2.1 s.2.2.2=Nat.gcd a b∧(mag s.2.2.1).length≤10000000∧(mag s.2.2.2).length≤10000000) (fun s=>s.2.2.2)
  (fun s=>[(0,s.1),(1,s.2.1)]) (fun s=>.ft (rd (cN .u32) s.2.1 (mag s.2.2.2))::.ft (rd (cN .u32) s.1 (mag s.2.2.1))::As) (v,o,a,b) ⟨rfl,ha,hb⟩ Zag (Ents.trans (Zff (v:=v)) (Zff (v:=o))) ?_
 rintro ⟨v,o,x,y⟩ ⟨hxy,hx,hy⟩
 simp only at hxy hx hy
 show Tri _ _ _ _ [(0,v),(1,o)] (.ft (rd (cN .u32) o (mag y))::.ft (rd (cN .u32) v (mag x))::As) _
 repeat' first|refine Kz ?_|intro _
 refine Kt rfl (Zce (n:=y)) ?_
 by_cases hy0:y=0
 ·subst hy0
  rw [Nat.gcd_zero_right] at hxy
  subst hxy
  repeat' first|refine Kz ?_|intro _
  (refine Zad ?_)
  exact ⟨_,rfl,Zab⟩
 ·by_cases hs:(mag x).length≤2∧(mag y).length≤2
  ·obtain ⟨hs1,hs2⟩:=hs
   have hx9:x < 1000000000000000000:=by
    have h1:=Zah x
    have h2:=Nat.pow_le_pow_right (n:=1000000000) (by omega) hs1
    omega
   have hy9:y < 1000000000000000000:=by
    have h1:=Zah y
    have h2:=Nat.pow_le_pow_right (n:=1000000000) (by omega) hs2
    omega
   repeat' first|refine Kz ?_|intro _
   refine Kt rfl (Zj7 (a:=x) hs1) ?_
   repeat' first|refine Kz ?_|intro _
   refine Kt rfl (Zj7 (a:=y) hs2) ?_
   repeat' first|refine Kz ?_|intro _
   refine Tri.loop (ι:=Nat × Nat) (fun s=>Nat.gcd s.1 s.2=Nat.gcd a b∧s.1 < 1000000000000000000∧s.2 < 1000000000000000000) (fun s=>s.2)
    (fun s=>[(5,.int .u64 (s.1:Int)),(6,.int .u64 (s.2:Int))]) (fun _=>As) (x,y) ⟨hxy,hx9,hy9⟩ Zag Zab ?_
   rintro ⟨c,d⟩ ⟨hcd,hc9,hd9⟩
   simp only at hcd hc9 hd9
   show Tri _ _ _ _ [(5,.int .u64 (c:Int)),(6,.int .u64 (d:Int))] As _
   repeat' first|refine Kz ?_|intro _
   (refine Kx (fun hc=>?_) fun hc=>?_)
   ·have hre:((c:Int) % (d:Int))=((c % d:Nat):Int):=(Int.natCast_emod _ _).symm
    have hlt:c % d < d:=Nat.mod_lt _ (by omega)
    repeat' first|refine Kz ?_|intro _
    refine Zbb (.take 0 (.take 1 (.take 2 (.take 3 (.take 4 (.take 5 (.done))))))) ?_
    repeat' first|refine Kf ?_|intro _|constructor
    rw [hre]
    exact Post.round (d,c % d) ⟨by simp only;rw [← hcd,Nat.gcd_comm,Nat.gcd_comm c d];exact (Nat.gcd_rec d c).symm,hd9,by simp only;omega⟩ (by simp only;exact hlt) Zag Zab
   ·have hd0:d=0:=by omega
    subst hd0
    rw [Nat.gcd_zero_right] at hcd
    repeat' first|refine Kz ?_|intro _
    refine TL.call rfl rfl rfl (Zcz (n:=c) (by omega)) ?_
    rintro _ _ ⟨p,cap,rfl,rfl⟩
    rw [← hcd]
    repeat' first|refine Kz ?_|intro _
    (refine Zad ?_)
    exact ⟨_,rfl,Zab⟩
  ·have hlt:x % y < y:=Nat.mod_lt _ (by omega)
   have hl9:=Zao (Nat.le_of_lt hlt)
   have hgc:Nat.gcd y (x % y)=Nat.gcd a b:=by rw [← hxy,Nat.gcd_comm x y,Nat.gcd_rec y x,Nat.gcd_comm]
   by_cases hs1:(mag x).length≤2
   all_goals
    repeat' first|refine Kf ?_|intro _|constructor
    refine TL.call rfl rfl rfl (Zfs (a:=x) (b:=y) hy0 (by omega) (by omega)) ?_
    rintro _ _ ⟨p,cap,p',cap',rfl,rfl⟩
    repeat' first|refine Kz ?_|intro _
    exact Post.round (o,.slice p' (mag (x % y)).length cap',y,x % y) ⟨hgc,by simp only;omega,by simp only;omega⟩ (by simp only;exact hlt) Zag Zab
theorem Zk1 {n:Nat} (hn:n≤1000000):CallsS Tryz.prog w0 70 [.int .i64 (n:Int)] As (MagR As (10 ^ n)):=by
 refine Zcy ?_
 refine Zaa Tryz.func70 rfl Tryz.ntmps70 rfl ?_
 have e1:((n:Int) / 9+1)=((n / 9+1:Nat):Int):=by omega
 repeat' first|refine Kz ?_|intro _
 rw [e1]
 repeat' first|refine Kz ?_|intro _
 rename_i sv
 refine Tri.loop (ι:=Nat) (fun k=>k≤n % 9) (fun k=>n % 9 - k)
  (fun k=>[(0,.int .i64 (n:Int)),(3,sv),(4,.int .u32 ((10 ^ k:Nat):Int)),(10,.int .i64 ((n:Int) % 9)),(11,.int .i64 (k:Int))]) (fun _=>.ow (cN .u32) 75 sv (List.replicate (n / 9+1) 0)::As) 0 (by omega) Zag Zab ?_
 intro k hk
 have hp:10 ^ k≤100000000:=Nat.le_trans (Nat.pow_le_pow_right (by omega) (show k≤8 by omega)) (by decide)
 have hpk:10 ^ (k+1)=10 ^ k * 10:=Nat.pow_succ ..
 have hkn9:k=n % 9→(10:Nat) ^ (n % 9)=10 ^ k:=fun h=>by rw [h]
 show Tri _ _ _ _ [(0,.int .i64 (n:Int)),(3,sv),(4,.int .u32 ((10 ^ k:Nat):Int)),(10,.int .i64 ((n:Int) % 9)),(11,.int .i64 (k:Int))] (.ow (cN .u32) 75 sv (List.replicate (n / 9+1) 0)::As) _
 generalize (10:Nat) ^ k=T at hp hpk hkn9 ⊢
 have hrl:(List.replicate (n / 9+1) 0).length=n / 9+1:=List.length_replicate
 repeat' first|refine Kz ?_|intro _
 (refine Kx (fun hc=>?_) fun hc=>?_)
 ·repeat' first|refine Kz ?_|intro _
  refine Post.round (k+1) (by omega) (by omega) ?_ Zab
  rw [show ((10 ^ (k+1):Nat):Int)=(T:Int) * 10 by rw [hpk,Int.natCast_mul];rfl]
  (exact Zag)
 ·have hkn:k=n % 9:=by omega
  rw [← hkn9 hkn] at *
  have e2:((n:Int) / 9)=((n / 9:Nat):Int):=by omega
  repeat' first|refine Kz ?_|intro _
  rw [e2]
  repeat' first|refine Kz ?_|intro _
  (refine Zad ?_)
  exact ⟨_,rfl,by rw [← Zp0];exact Ents.trans Ents.freeze Zab⟩
theorem Zka {v:Value} {x n:Nat} [hf:FtIn As v Nat (cN .u32) (mag x)] (hL:(mag x).length * n≤90000000) (hx:(mag x).length≤10000000) (hn:n≤1000000):CallsS Tryz.prog w0 37 [v,.int .i64 (n:Int)] As (MagR As (x ^ n)):=by
 refine Zcy ?_
 refine Zaa Tryz.func37 rfl Tryz.ntmps37 rfl ?_
 have hm1:mag 1=[1]:=Zem (by omega) (by omega)
 repeat' first|refine Kz ?_|intro _
 rename_i b7
 refine Tri.loop (ι:=Nat × Value) (fun s=>s.1≤n) (fun s=>n - s.1)
  (fun s=>[(5,s.2),(6,.func (.func 64) #[v] #[]),(10,.int .i64 (n:Int)),(11,.int .i64 (s.1:Int))]) (fun s=>.ft (rd (cN .u32) s.2 (mag (x ^ s.1)))::As) (0,.slice (some ⟨b7,0,none⟩) 1 1) (by omega) Zag
  (Ents.trans (Zeg (cN .u32) (mag (x ^ 0)) (by rw [Nat.pow_zero,hm1];rfl) (by rw [Nat.pow_zero,hm1];rfl) (by rw [Nat.pow_zero,hm1];rfl)) Ents.freeze) ?_
 rintro ⟨k,pv⟩ hk
 simp only at hk
 show Tri _ _ _ _ [(5,pv),(6,.func (.func 64) #[v] #[]),(10,.int .i64 (n:Int)),(11,.int .i64 (k:Int))] (.ft (rd (cN .u32) pv (mag (x ^ k)))::As) _
 repeat' first|refine Kz ?_|intro _
 (refine Kx (fun hc=>?_) fun hc=>?_)
 ·have h1:=Zen x k
  have h2:=Nat.mul_le_mul_left (mag x).length hk
  repeat' first|refine Kz ?_|intro _
  refine TL.callv rfl rfl rfl rfl (Zd1 (a:=x) (b:=x ^ k) (by omega) (by omega)) ?_
  rintro _ _ ⟨p,cap,rfl,rfl⟩
  rw [Nat.mul_comm,← Nat.pow_succ]
  repeat' first|refine Kz ?_|intro _
  exact Post.round (k+1,.slice p (mag (x ^ (k+1))).length cap) (by simp only;omega) (by simp only;omega) Zag Zab
 ·have hkn:k=n:=by omega
  subst hkn
  repeat' first|refine Kz ?_|intro _
  (refine Zad ?_)
  exact ⟨_,rfl,Zab⟩
theorem Zp2 (ht:Tab w0) {v:Value} {x k:Nat} [hf:FtIn As v Nat (cN .u32) (mag x)] (hx:(mag x).length≤10000) (hk1:1≤k) (hk:k≤100):CallsS Tryz.prog w0 44 [v,.int .i64 (k:Int)] As (MagR As (rootN x k)):=by
 refine Zcy ?_
 refine Zaa Tryz.func44 rfl Tryz.ntmps44 rfl ?_
 repeat' first|refine Kz ?_|intro _
 refine TL.call rfl rfl rfl (Zce (n:=x)) ?_
 rintro _ As ⟨rfl,rfl⟩
 by_cases hx0:x=0
 ·subst hx0
  rw [Zj8 (r:=0) (by omega) (by rw [Nat.zero_pow (by omega)];omega) (by rw [Nat.zero_add,Nat.one_pow];omega),Zai]
  repeat' first|refine Kz ?_|intro _
  (refine Zad ?_)
  exact ⟨_,rfl,Ents.trans (Zc5 (T:=75) (cN .u32)) Ents.freeze⟩
 have hnd:=Zga x
 have hlt:=Zdm x
 have hr1:1≤rootN x k:=Zd4 (by omega) (by rw [Nat.one_pow];omega)
 repeat' first|refine Kz ?_|intro _
 refine TL.call rfl rfl rfl (Zh4 ht (n:=x) (by omega)) ?_
 rintro _ As ⟨rfl,rfl⟩
 generalize Lib.nDigits x=nd at hnd hlt ⊢
 have hndq:((nd:Int) / (k:Int))=((nd / k:Nat):Int):=(Int.natCast_ediv _ _).symm
 have hndl:nd / k≤nd:=Nat.div_le_self _ _
 have hr10:rootN x k≤10 ^ (nd / k+1):=by
  rcases Nat.lt_or_ge (10 ^ (nd / k+1)) (rootN x k) with h|h
  ·exfalso
   have h1:=Zd3 (m:=x) (k:=k) (by omega)
   have h2:=Nat.pow_le_pow_left (Nat.le_of_lt h) k
   rw [← Nat.pow_mul] at h2
   have h3:nd≤(nd / k+1) * k:=by
    have:=Nat.div_add_mod nd k
    have h4:=Nat.mod_lt nd (show 0 < k by omega)
    rw [Nat.add_mul,Nat.one_mul,Nat.mul_comm]
    omega
   have h5:=Nat.pow_le_pow_right (n:=10) (by omega) h3
   omega
  ·exact h
 generalize nd / k=E at hndq hndl hr10
 repeat' first|refine Kz ?_|intro _
 rw [hndq]
 repeat' first|refine Kz ?_|intro _
 refine TL.call rfl rfl rfl (Zk1 (n:=E+1) (by omega)) ?_
 rintro _ _ ⟨p,cap,rfl,rfl⟩
 repeat' first|refine Kz ?_|intro _
 refine Tri.loop (ι:=Nat × Value) (fun s=>rootN x k≤s.1∧s.1≤10 ^ (E+1)) (fun s=>s.1)
  (fun s=>[(0,v),(1,.int .i64 (k:Int)),(5,s.2)]) (fun s=>.ft (rd (cN .u32) s.2 (mag s.1))::As) (10 ^ (E+1),.slice p (mag (10 ^ (E+1))).length cap) ⟨hr10,Nat.le_refl _⟩ Zag Zab ?_
 rintro ⟨y,yv⟩ ⟨hy1,hy2⟩
 simp only at hy1 hy2
 have hyl:(mag y).length≤E+2:=Zds (Nat.lt_of_le_of_lt hy2 (Nat.pow_lt_pow_right (by omega) (by omega)))
 have hyp:(mag (y ^ (k - 1))).length≤(mag y).length * (k - 1)+1:=Zen y (k - 1)
 have hyk:(mag y).length * (k - 1)≤(E+2) * 99:=Nat.mul_le_mul hyl (by omega)
 have hy0:0 < y:=by omega
 obtain ⟨j,rfl⟩:∃ j,k=j+1:=⟨k - 1,by omega⟩
 rw [Nat.add_sub_cancel] at hyp hyk
 show Tri _ _ _ _ [(0,v),(1,.int .i64 ((j+1:Nat):Int)),(5,yv)] (.ft (rd (cN .u32) yv (mag y))::As) _
 repeat' first|refine Kz ?_|intro _
 refine TL.call rfl rfl rfl (Zka (x:=y) (n:=j) (by omega) (by omega) (by omega)) ?_
 rintro _ _ ⟨p1,cap1,rfl,rfl⟩
 have hyj:y ^ j≠0:=by
  have:=Nat.pow_pos (n:=j) hy0
  omega
 repeat' first|refine Kz ?_|intro _
 refine TL.call rfl rfl rfl (Zfs (a:=x) (b:=y ^ j) hyj (by omega) (by omega)) ?_
 rintro _ _ ⟨p2,cap2,p3,cap3,rfl,rfl⟩
 repeat' first|refine Kz ?_|intro _
 refine TL.call rfl rfl rfl (Zcz (n:=j) (by omega)) ?_
 rintro _ _ ⟨p4,cap4,rfl,rfl⟩
 have hjl:(mag j).length≤1:=Zcb (by omega)
 repeat' first|refine Kz ?_|intro _
 refine TL.call rfl rfl rfl (Zd1 (a:=y) (b:=j) (by omega) (by omega)) ?_
 rintro _ _ ⟨p5,cap5,rfl,rfl⟩
 have hm1:=Zch y j
 have hm2:=Zao (Nat.div_le_self x (y ^ j))
 repeat' first|refine Kz ?_|intro _
 refine TL.callv rfl rfl rfl rfl (Ziz (v:=.slice p5 (mag (y * j)).length cap5) (o:=.slice p2 (mag (x / y ^ j)).length cap2) (a:=y * j) (b:=x / y ^ j) (by omega) (by omega)) ?_
 rintro _ _ ⟨p6,cap6,rfl,rfl⟩
 have hm3:=Zi9 (y * j) (x / y ^ j)
 repeat' first|refine Kz ?_|intro _
 refine TL.call rfl rfl rfl (Zg6 (a:=y * j+x / y ^ j) (d:=j+1) (by omega) (by omega) (by omega)) ?_
 rintro _ _ ⟨p7,cap7,rfl,rfl⟩
 have hge:rootN x (j+1)≤(y * j+x / y ^ j) / (j+1):=by rw [Nat.mul_comm y j];exact Zmn hy0 (Zd3 (by omega))
 have hm4:=Zao (Nat.div_le_self (y * j+x / y ^ j) (j+1))
 generalize hz:(y * j+x / y ^ j) / (j+1)=z at hge hm4 ⊢
 repeat' first|refine Kz ?_|intro _
 refine Ks rfl (Zde (v:=.slice p7 (mag z).length cap7) (o:=yv) (a:=z) (b:=y) (by omega) (by omega)) ?_
 by_cases hzy:z < y
 ·have hc:Lib.compareInt z y < 0:=Zti.2 hzy
  repeat' first|refine Kz ?_|intro _
  exact Post.round (z,.slice p7 (mag z).length cap7) ⟨hge,by simp only;omega⟩ (by simp only;omega) Zag Zab
 ·have hc:¬ Lib.compareInt z y < 0:=fun h=>hzy (Zti.1 h)
  have hyr:y=rootN x (j+1):=by
   have h1:y ^ (j+1)≤x:=Zi7 hy0 (by rw [Nat.mul_comm j y,hz];omega)
   have h2:=Zd4 (m:=x) (k:=j+1) (by omega) h1
   omega
  rw [← hyr]
  repeat' first|refine Kz ?_|intro _
  (refine Zad ?_)
  exact ⟨_,rfl,Zab⟩
end Go.Proofs.YtaipdafohfmkcaaGreatDoor
namespace Go.Sx
open Go
theorem St.below {w0 w w':World} {As:List Ent} (h:St w0 w As) (hb:RowKit.Below w.heap.size w w'):St w0 w' As:=by
 obtain ⟨H,bs,g⟩:=h
 refine ⟨H,bs,Nat.le_trans g.size hb.size,hb.os.trans g.os,hb.tape.trans g.tape,hb.output.trans g.output,fun b o hbo=>?_,g.old,Sat.move (FH.le_refl H) g.sat fun b hm=>hb.block b (g.sat.lt b hm),g.nd,g.ap⟩
 have h1:=g.fz b o hbo
 rw [hb.block b (Array.getElem?_eq_some_iff.1 h1).1];exact h1
end Go.Sx
namespace Go.Proofs.YtaipdafohfmkcaaGreatDoor
open Go Go.Sx
variable {w0:World} {As:List Ent}
theorem Zfk {v:Value} {x:Int} [hf:RdIn As v Nat (cN .u32) (mag x.natAbs)]:CQ Tryz.prog w0 45 [.agg #[v,.bool (decide (x < 0))]] As (.agg #[v,.bool (decide (-x < 0))]):=by
 refine Zap v fun pv cv hv=>?_
 subst hv
 refine Zaa Tryz.func45 rfl Tryz.ntmps45 rfl ?_
 have e1:(!decide (x < 0)&&decide (x.natAbs≠0))=decide (-x < 0):=by
  rw [Bool.eq_iff_iff]
  simp only [Bool.and_eq_true,Bool.not_eq_true',decide_eq_false_iff_not,decide_eq_true_eq]
  omega
 repeat' first|refine Kz ?_|intro _
 refine TL.call rfl rfl rfl (Zfl (n:=x.natAbs)) ?_
 rintro _ As ⟨rfl,rfl⟩
 rw [e1]
 repeat' first|refine Kz ?_|intro _
 exact Kv
theorem Zma {v:Value} {x:Int} [hf:RdIn As v Nat (cN .u32) (mag x.natAbs)]:CQ Tryz.prog w0 49 [.agg #[v,.bool (decide (x < 0))]] As (.int .i64 (signI x)):=by
 refine Zap v fun pv cv hv=>?_
 subst hv
 refine Zaa Tryz.func49 rfl Tryz.ntmps49 rfl ?_
 repeat' first|refine Kz ?_|intro _
 refine TL.call rfl rfl rfl (Zce (n:=x.natAbs)) ?_
 rintro _ As ⟨rfl,rfl⟩
 by_cases h0:x.natAbs=0
 ·repeat' first|refine Kz ?_|intro _
  (refine Zad ?_)
  exact ⟨_,⟨by rw [signI,if_neg (by omega),if_pos (by omega)],rfl⟩,Zab⟩
 ·by_cases h1:x < 0
  ·repeat' first|refine Kz ?_|intro _
   (refine Zad ?_)
   exact ⟨_,⟨by rw [signI,if_pos h1],rfl⟩,Zab⟩
  ·repeat' first|refine Kz ?_|intro _
   (refine Zad ?_)
   exact ⟨_,⟨by rw [signI,if_neg h1,if_neg (by omega)],rfl⟩,Zab⟩
theorem Zeb {v o:Value} {x y:Int} [hf:RdIn As v Nat (cN .u32) (mag x.natAbs)] [hg:RdIn As o Nat (cN .u32) (mag y.natAbs)] (ha:(mag x.natAbs).length≤100000000) (hb:(mag y.natAbs).length≤100000000) :
  CallsS Tryz.prog w0 50 [.agg #[v,.bool (decide (x < 0))],.agg #[o,.bool (decide (y < 0))]] As (SgnR As (x - y)):=by
 refine Zap v fun pv cv hv=>Zap o fun po co ho=>?_
 subst hv ho
 refine Zaa Tryz.func50 rfl Tryz.ntmps50 rfl ?_
 repeat' first|refine Kz ?_|intro _
 refine Zbb (.take 0 (.take 1 (.all [(2,.all [(3,.all [(4,.done)])])]))) ?_
 repeat' first|refine Kf ?_|intro _|constructor
 refine Kw rfl (Zfk (x:=y)) ?_
 rw [Int.sub_eq_add_neg]
 have hzn:mag y.natAbs=mag (-y).natAbs:=by rw [Int.natAbs_neg]
 rw [hzn] at hg hb ⊢
 clear hzn
 generalize -y=z at hg hb ⊢
 repeat' first|refine Kf ?_|intro _|constructor
 refine T1.call rfl rfl rfl rfl (Zpe (x:=x) (y:=z) ha hb) ?_
 rintro _ _ ⟨p,cap,rfl,rfl⟩
 repeat' first|refine Kf ?_|intro _|constructor
 (refine Zad ?_)
 exact ⟨_,⟨p,cap,rfl,rfl⟩,Zab⟩
theorem Zk6 {v o:Value} {x y:Int} [hf:RdIn As v Nat (cN .u32) (mag x.natAbs)] [hg:RdIn As o Nat (cN .u32) (mag y.natAbs)] (ha:(mag x.natAbs).length≤100000000) (hb:(mag y.natAbs).length≤100000000) :
  CallsS Tryz.prog w0 60 [.agg #[v,.bool (decide (x < 0))],.agg #[o,.bool (decide (y < 0))]] As (SgnR As (x * y)):=by
 refine Zap v fun pv cv hv=>Zap o fun po co ho=>?_
 subst hv ho
 have e1:(x * y).natAbs=x.natAbs * y.natAbs:=Int.natAbs_mul x y
 have e2:decide (x * y < 0)=(!decide (decide (x < 0)=decide (y < 0))&&decide (x.natAbs * y.natAbs≠0)):=by
  rw [Bool.eq_iff_iff,decide_eq_true_eq,← e1]
  simp only [Bool.and_eq_true,Bool.not_eq_true',decide_eq_false_iff_not,decide_eq_true_eq]
  rcases Int.lt_trichotomy x 0 with h|h|h
  ·rcases Int.lt_trichotomy y 0 with k|k|k
   ·have:=Int.mul_pos_of_neg_of_neg h k
    simp [h,k];omega
   ·subst k;simp
   ·have:=Int.mul_neg_of_neg_of_pos h k
    have hk:¬ y < 0:=by omega
    simp [h,hk];omega
  ·subst h;simp
  ·rcases Int.lt_trichotomy y 0 with k|k|k
   ·have:=Int.mul_neg_of_pos_of_neg h k
    have hk:¬ x < 0:=by omega
    simp [k,hk];omega
   ·subst k;simp
   ·have:=Int.mul_pos h k
    have hk:¬ x < 0:=by omega
    have hk':¬ y < 0:=by omega
    simp [hk,hk'];omega
 refine Zaa Tryz.func60 rfl Tryz.ntmps60 rfl ?_
 repeat' first|refine Kz ?_|intro _
 refine Zbb (.take 0 (.take 1 (.take 2 (.take 3 (.take 5 (.take 6 (.take 7 (.take 8 (.take 9 (.all [(4,.all [(10,.all [(11,.done)])])])))))))))) ?_
 repeat' first|refine Kf ?_|intro _|constructor
 refine T1.call rfl rfl rfl rfl (Zd1 (a:=x.natAbs) (b:=y.natAbs) ha hb) ?_
 rintro _ _ ⟨p,cap,rfl,rfl⟩
 repeat' first|refine Kf ?_|intro _|constructor
 refine Kw rfl (Zfl (n:=x.natAbs * y.natAbs)) ?_
 repeat' first|refine Kf ?_|intro _|constructor
 (refine Zad ?_)
 exact ⟨_,Zfi e1 e2,Zab⟩
theorem Zlf {v o:Value} {x y:Int} [hf:FtIn As v Nat (cN .u32) (mag x.natAbs)] [hg:FtIn As o Nat (cN .u32) (mag y.natAbs)] (ha:(mag x.natAbs).length≤10000000) (hb:(mag y.natAbs).length≤10000000) :
  CallsS Tryz.prog w0 61 [.agg #[v,.bool (decide (x < 0))],.agg #[o,.bool (decide (y < 0))]] As (SgnR As (gcdI x y)):=by
 refine Zap v fun pv cv hv=>Zap o fun po co ho=>?_
 subst hv ho
 have e1:(gcdI x y).natAbs=Nat.gcd x.natAbs y.natAbs:=Int.natAbs_natCast _
 have e2:decide (gcdI x y < 0)=(false&&decide (Nat.gcd x.natAbs y.natAbs≠0)):=by
  rw [Bool.false_and,decide_eq_false_iff_not,gcdI];omega
 refine Zaa Tryz.func61 rfl Tryz.ntmps61 rfl ?_
 repeat' first|refine Kz ?_|intro _
 refine TL.call rfl rfl rfl (Zro (a:=x.natAbs) (b:=y.natAbs) ha hb) ?_
 rintro _ _ ⟨p,cap,rfl,rfl⟩
 repeat' first|refine Kz ?_|intro _
 refine Kt rfl (Zfl (n:=Nat.gcd x.natAbs y.natAbs)) ?_
 repeat' first|refine Kz ?_|intro _
 (refine Zad ?_)
 exact ⟨_,Zfi e1 e2,Zab⟩
end Go.Proofs.YtaipdafohfmkcaaGreatDoor
namespace Go.Proofs.YtaipdafohfmkcaaGreatDoor
open Go Go.Sx
variable {w0:World} {As:List Ent}
theorem Zi5 (ht:Tab w0) {s t:List UInt8} (hs:s.length≤1000000000) (hl:t.length≤1000000000) :
  CQ Tryz.prog w0 33 [.int .i64 1,.string ⟨s.toArray⟩,.string ⟨t.toArray⟩] As (.tuple #[.string ⟨(binW (· - ·) s t).1.toArray⟩,.int .i64 (binW (· - ·) s t).2]):=by
 refine Zaa Tryz.func33 rfl Tryz.ntmps33 rfl ?_
 repeat' first|refine Kz ?_|intro _
 refine TL.call rfl rfl rfl (Zek hs hl) ?_
 rintro _ _ ⟨p,cap,q,cap',rfl,rfl⟩
 unfold binW
 cases h1:readW s with
 | none =>
  simp only [Option.isSome_none,Bool.false_eq_true,false_and,if_false]
  repeat' first|refine Kz ?_|intro _
  exact Kv
 | some x =>
  cases h2:readW t with
  | none =>
   simp only [Option.isSome_none,Bool.false_eq_true,and_false,if_false]
   repeat' first|refine Kz ?_|intro _
   exact Kv
  | some y =>
   simp only [Option.isSome_some,and_self,if_true,Option.getD_some]
   have l1:=Zar h1
   have l2:=Zar h2
   have l3:(mag (x - y).natAbs).length≤2000:=by
    have:=Zm2 (x:=x) (y:=-y) (Zdb h1) (by rw [Int.natAbs_neg];exact Zdb h2)
    rw [← Int.sub_eq_add_neg] at this
    omega
   repeat' first|refine Kz ?_|intro _
   refine Zbb (.take 0 (.take 1 (.take 2 (.take 3 (.take 4 (.take 5 (.all [(6,.all [(7,.take 8 (.take 9 (.take 10 (.take 11 (.done)))))])]))))))) ?_
   repeat' first|refine Kf ?_|intro _|constructor
   refine T1.callv rfl rfl rfl rfl rfl (Zeb (x:=x) (y:=y) (by omega) (by omega)) ?_
   rintro _ _ ⟨p',cap2,rfl,rfl⟩
   repeat' first|refine Kf ?_|intro _|constructor
   refine Kw rfl (Zbj ht (z:=x - y) (by omega)) ?_
   repeat' first|refine Kf ?_|intro _|constructor
   exact Kv
theorem Zl7 (ht:Tab w0) {s t:List UInt8} (hs:s.length≤1000000000) (hl:t.length≤1000000000) :
  CQ Tryz.prog w0 9 [.string ⟨s.toArray⟩,.string ⟨t.toArray⟩] As (.tuple #[.string ⟨(binW (· - ·) s t).1.toArray⟩,.int .i64 (binW (· - ·) s t).2]):=by
 refine Zaa Tryz.func9 rfl Tryz.ntmps9 rfl ?_
 repeat' first|refine Kz ?_|intro _
 refine Kt rfl (Zi5 ht hs hl) ?_
 repeat' first|refine Kz ?_|intro _
 exact Kv
theorem Zi4 (ht:Tab w0) {s t:List UInt8} (hs:s.length≤1000000000) (hl:t.length≤1000000000) :
  CQ Tryz.prog w0 33 [.int .i64 2,.string ⟨s.toArray⟩,.string ⟨t.toArray⟩] As (.tuple #[.string ⟨(binW (· * ·) s t).1.toArray⟩,.int .i64 (binW (· * ·) s t).2]):=by
 refine Zaa Tryz.func33 rfl Tryz.ntmps33 rfl ?_
 repeat' first|refine Kz ?_|intro _
 refine TL.call rfl rfl rfl (Zek hs hl) ?_
 rintro _ _ ⟨p,cap,q,cap',rfl,rfl⟩
 unfold binW
 cases h1:readW s with
 | none =>
  simp only [Option.isSome_none,Bool.false_eq_true,false_and,if_false]
  repeat' first|refine Kz ?_|intro _
  exact Kv
 | some x =>
  cases h2:readW t with
  | none =>
   simp only [Option.isSome_none,Bool.false_eq_true,and_false,if_false]
   repeat' first|refine Kz ?_|intro _
   exact Kv
  | some y =>
   simp only [Option.isSome_some,and_self,if_true,Option.getD_some]
   have l1:=Zar h1
   have l2:=Zar h2
   have l3:(mag (x * y).natAbs).length≤2000:=by
    have:=Zch x.natAbs y.natAbs
    rw [Int.natAbs_mul]
    omega
   repeat' first|refine Kz ?_|intro _
   refine Zbb (.take 0 (.take 1 (.take 2 (.take 3 (.take 4 (.take 5 (.all [(6,.all [(7,.take 8 (.take 9 (.take 10 (.take 11 (.done)))))])]))))))) ?_
   repeat' first|refine Kf ?_|intro _|constructor
   refine T1.callv rfl rfl rfl rfl rfl (Zk6 (x:=x) (y:=y) (by omega) (by omega)) ?_
   rintro _ _ ⟨p',cap2,rfl,rfl⟩
   repeat' first|refine Kf ?_|intro _|constructor
   refine Kw rfl (Zbj ht (z:=x * y) (by omega)) ?_
   repeat' first|refine Kf ?_|intro _|constructor
   exact Kv
theorem Zkd (ht:Tab w0) {s t:List UInt8} (hs:s.length≤1000000000) (hl:t.length≤1000000000) :
  CQ Tryz.prog w0 11 [.string ⟨s.toArray⟩,.string ⟨t.toArray⟩] As (.tuple #[.string ⟨(binW (· * ·) s t).1.toArray⟩,.int .i64 (binW (· * ·) s t).2]):=by
 refine Zaa Tryz.func11 rfl Tryz.ntmps11 rfl ?_
 repeat' first|refine Kz ?_|intro _
 refine Kt rfl (Zi4 ht hs hl) ?_
 repeat' first|refine Kz ?_|intro _
 exact Kv
theorem Zi3 (ht:Tab w0) {s t:List UInt8} (hs:s.length≤1000000000) (hl:t.length≤1000000000) :
  CQ Tryz.prog w0 33 [.int .i64 3,.string ⟨s.toArray⟩,.string ⟨t.toArray⟩] As (.tuple #[.string ⟨(binW gcdI s t).1.toArray⟩,.int .i64 (binW gcdI s t).2]):=by
 refine Zaa Tryz.func33 rfl Tryz.ntmps33 rfl ?_
 repeat' first|refine Kz ?_|intro _
 refine TL.call rfl rfl rfl (Zek hs hl) ?_
 rintro _ _ ⟨p,cap,q,cap',rfl,rfl⟩
 unfold binW
 cases h1:readW s with
 | none =>
  simp only [Option.isSome_none,Bool.false_eq_true,false_and,if_false]
  repeat' first|refine Kz ?_|intro _
  exact Kv
 | some x =>
  cases h2:readW t with
  | none =>
   simp only [Option.isSome_none,Bool.false_eq_true,and_false,if_false]
   repeat' first|refine Kz ?_|intro _
   exact Kv
  | some y =>
   simp only [Option.isSome_some,and_self,if_true,Option.getD_some]
   have l1:=Zar h1
   have l2:=Zar h2
   have l3:(mag (gcdI x y).natAbs).length≤2000:=by
    rw [gcdI,Int.natAbs_natCast]
    by_cases h0:x.natAbs=0
    ·rw [h0,Nat.gcd_zero_left];omega
    ·have:=Zao (Nat.gcd_le_left y.natAbs (show 0 < x.natAbs by omega))
     omega
   repeat' first|refine Kz ?_|intro _
   refine Zbb (.take 0 (.take 1 (.take 2 (.take 3 (.take 4 (.take 5 (.all [(6,.all [(7,.take 8 (.take 9 (.take 10 (.take 11 (.done)))))])]))))))) ?_
   repeat' first|refine Kf ?_|intro _|constructor
   refine T1.callv rfl rfl rfl rfl rfl (Zlf (x:=x) (y:=y) (by omega) (by omega)) ?_
   rintro _ _ ⟨p',cap2,rfl,rfl⟩
   repeat' first|refine Kf ?_|intro _|constructor
   refine Kw rfl (Zbj ht (z:=gcdI x y) (by omega)) ?_
   repeat' first|refine Kf ?_|intro _|constructor
   exact Kv
theorem Zeo (ht:Tab w0) {s t:List UInt8} (hs:s.length≤1000000000) (hl:t.length≤1000000000) :
  CQ Tryz.prog w0 15 [.string ⟨s.toArray⟩,.string ⟨t.toArray⟩] As (.tuple #[.string ⟨(binW gcdI s t).1.toArray⟩,.int .i64 (binW gcdI s t).2]):=by
 refine Zaa Tryz.func15 rfl Tryz.ntmps15 rfl ?_
 repeat' first|refine Kz ?_|intro _
 refine Kt rfl (Zi3 ht hs hl) ?_
 repeat' first|refine Kz ?_|intro _
 exact Kv
theorem Zas {s:List UInt8} (hs:s.length≤1000000000):CQ Tryz.prog w0 6 [.string ⟨s.toArray⟩] As (.int .i64 (checkW s)):=by
 refine Zaa Tryz.func6 rfl Tryz.ntmps6 rfl ?_
 repeat' first|refine Kz ?_|intro _
 refine TL.call rfl rfl rfl (Zcu hs) ?_
 rintro _ _ ⟨p,cap,rfl,rfl⟩
 unfold checkW
 cases h1:readW s with
 | none =>
  repeat' first|refine Kz ?_|intro _
  exact Kv
 | some x =>
  repeat' first|refine Kz ?_|intro _
  exact Kv
theorem Zg5 {s:List UInt8} (hs:s.length≤1000000000):CQ Tryz.prog w0 22 [.string ⟨s.toArray⟩] As (.tuple #[.int .i64 (signW s).1,.int .i64 (signW s).2]):=by
 refine Zaa Tryz.func22 rfl Tryz.ntmps22 rfl ?_
 repeat' first|refine Kz ?_|intro _
 refine TL.call rfl rfl rfl (Zcu hs) ?_
 rintro _ _ ⟨p,cap,rfl,rfl⟩
 unfold signW
 cases h1:readW s with
 | none =>
  repeat' first|refine Kz ?_|intro _
  exact Kv
 | some x =>
  simp only [Option.isSome_some,Option.getD_some]
  repeat' first|refine Kz ?_|intro _
  refine Kt rfl (Zma (x:=x)) ?_
  repeat' first|refine Kz ?_|intro _
  exact Kv
theorem Zpj {s t:List UInt8} (hs:s.length≤1000000000) (hl:t.length≤1000000000):CQ Tryz.prog w0 23 [.string ⟨s.toArray⟩,.string ⟨t.toArray⟩] As (.tuple #[.int .i64 (cmpW s t).1,.int .i64 (cmpW s t).2]):=by
 refine Zaa Tryz.func23 rfl Tryz.ntmps23 rfl ?_
 repeat' first|refine Kz ?_|intro _
 refine TL.call rfl rfl rfl (Zek hs hl) ?_
 rintro _ _ ⟨p,cap,q,cap',rfl,rfl⟩
 unfold cmpW
 cases h1:readW s with
 | none =>
  simp only [Option.isSome_none,Bool.false_eq_true,false_and,if_false]
  repeat' first|refine Kz ?_|intro _
  exact Kv
 | some x =>
  cases h2:readW t with
  | none =>
   simp only [Option.isSome_none,Bool.false_eq_true,and_false,if_false]
   repeat' first|refine Kz ?_|intro _
   exact Kv
  | some y =>
   simp only [Option.isSome_some,and_self,if_true,Option.getD_some]
   have l1:=Zar h1
   have l2:=Zar h2
   repeat' first|refine Kz ?_|intro _
   refine TL.call rfl rfl rfl (Zeb (x:=x) (y:=y) (by omega) (by omega)) ?_
   rintro _ _ ⟨p',cap2,rfl,rfl⟩
   repeat' first|refine Kz ?_|intro _
   refine Kt rfl (Zma (x:=x - y)) ?_
   repeat' first|refine Kz ?_|intro _
   exact Kv
theorem Zmo (ht:Tab w0) {s:List UInt8} (hs:s.length≤1000000000):CQ Tryz.prog w0 18 [.string ⟨s.toArray⟩] As (.tuple #[.string ⟨(unW (- ·) s).1.toArray⟩,.int .i64 (unW (- ·) s).2]):=by
 refine Zaa Tryz.func18 rfl Tryz.ntmps18 rfl ?_
 repeat' first|refine Kz ?_|intro _
 refine TL.call rfl rfl rfl (Zcu hs) ?_
 rintro _ _ ⟨p,cap,rfl,rfl⟩
 unfold unW
 cases h1:readW s with
 | none =>
  repeat' first|refine Kz ?_|intro _
  exact Kv
 | some x =>
  simp only [Option.isSome_some,Option.getD_some]
  have l1:=Zar h1
  repeat' first|refine Kz ?_|intro _
  refine Kt rfl (Zfk (x:=x)) ?_
  have hzn:mag x.natAbs=mag (-x).natAbs:=by rw [Int.natAbs_neg]
  rw [hzn] at l1 ⊢
  clear hzn
  generalize -x=z at l1 ⊢
  repeat' first|refine Kz ?_|intro _
  refine Kt rfl (Zbj ht (z:=z) (by omega)) ?_
  repeat' first|refine Kz ?_|intro _
  exact Kv
theorem Zrq (ht:Tab w0) {s:List UInt8} (hs:s.length≤1000000000):CQ Tryz.prog w0 17 [.string ⟨s.toArray⟩] As (.tuple #[.string ⟨(unW (fun x=>(x.natAbs:Int)) s).1.toArray⟩,.int .i64 (unW (fun x=>(x.natAbs:Int)) s).2]):=by
 refine Zaa Tryz.func17 rfl Tryz.ntmps17 rfl ?_
 repeat' first|refine Kz ?_|intro _
 refine TL.call rfl rfl rfl (Zcu hs) ?_
 rintro _ _ ⟨p,cap,rfl,rfl⟩
 unfold unW
 cases h1:readW s with
 | none =>
  repeat' first|refine Kz ?_|intro _
  exact Kv
 | some x =>
  simp only [Option.isSome_some,Option.getD_some]
  have l1:=Zar h1
  repeat' first|refine Kz ?_|intro _
  refine Kt rfl (Zfl (n:=x.natAbs)) ?_
  have hzn:x.natAbs=((x.natAbs:Nat):Int).natAbs:=(Int.natAbs_natCast _).symm
  have hz0:(false&&decide (x.natAbs≠0))=decide (((x.natAbs:Nat):Int) < 0):=by
   rw [Bool.false_and,eq_comm,decide_eq_false_iff_not];omega
  rw [hz0]
  generalize ((x.natAbs:Nat):Int)=z at hzn ⊢
  rw [hzn] at l1 ⊢
  repeat' first|refine Kz ?_|intro _
  refine Kt rfl (Zbj ht (z:=z) (by omega)) ?_
  repeat' first|refine Kz ?_|intro _
  exact Kv
end Go.Proofs.YtaipdafohfmkcaaGreatDoor
namespace Go.Proofs.YtaipdafohfmkcaaGreatDoor
open Go Go.Sx
variable {w0:World} {As:List Ent}
theorem Zd5 (ht:Tab w0) {s:List UInt8} {n:Int} (hs:s.length≤1000000000) (hn0:-9223372036854775808≤n) (hn1:n≤9223372036854775807) :
  CQ Tryz.prog w0 12 [.string ⟨s.toArray⟩,.int .i64 n] As (.tuple #[.string ⟨(powW s n).1.toArray⟩,.int .i64 (powW s n).2]):=by
 refine Zaa Tryz.func12 rfl Tryz.ntmps12 rfl ?_
 repeat' first|refine Kz ?_|intro _
 refine TL.call rfl rfl rfl (Zcu hs) ?_
 rintro _ _ ⟨p,cap,rfl,rfl⟩
 unfold powW
 cases h1:readW s with
 | none =>
  repeat' first|refine Kz ?_|intro _
  exact Kv
 | some x =>
  simp only [Option.isSome_some,Option.getD_some]
  have l1:=Zar h1
  by_cases ho:n < 0∨40 < n
  ·rw [if_pos ho]
   by_cases hn:n < 0
   ·repeat' first|refine Kz ?_|intro _
    exact Kv
   ·have hn40:40 < n:=by omega
    repeat' first|refine Kz ?_|intro _
    exact Kv
  ·rw [if_neg ho]
   obtain ⟨k,rfl⟩:∃ k:Nat,n=(k:Int):=⟨n.toNat,by omega⟩
   rw [Int.toNat_natCast]
   have hk:k≤40:=by omega
   have hL:(mag x.natAbs).length * k≤600 * 40:=Nat.mul_le_mul l1 hk
   have hpw:=Zen x.natAbs k
   obtain ⟨e1,e2⟩:=Zof x k
   have hzb:(decide (x < 0)&&decide ((k:Int) % 2=1)&&decide (x.natAbs ^ k≠0))=decide (x ^ k < 0):=by
    rw [Bool.eq_iff_iff,decide_eq_true_eq,e2,← e1]
    simp only [Bool.and_eq_true,decide_eq_true_eq]
    constructor
    ·rintro ⟨⟨h3,h4⟩,_⟩;exact ⟨h3,by omega⟩
    ·intro h;have:=e2.2 h;exact ⟨⟨h.1,by omega⟩,by omega⟩
   rw [← e1] at hpw hzb
   have hpw0:mag (x.natAbs ^ k)=mag (x ^ k).natAbs:=by rw [e1]
   repeat' first|refine Kz ?_|intro _
   by_cases hx:x < 0
   all_goals
    refine Zbb (.take 0 (.take 1 (.take 2 (.take 4 (.take 5 (.all [(3,.take 6 (.take 7 (.take 8 (.take 9 (.take 10 (.all [(11,.all [(12,.take 13 (.take 14 (.take 15 (.take 16 (.done)))))])]))))))])))))) ?_
    repeat' first|refine Kf ?_|intro _|constructor
    refine T1.call rfl rfl rfl rfl (Zka (x:=x.natAbs) (n:=k) (by omega) (by omega) (by omega)) ?_
    rintro _ _ ⟨p',cap',rfl,rfl⟩
    rw [hpw0]
    repeat' first|refine Kf ?_|intro _|constructor
    refine Kw rfl (Zfl (n:=(x ^ k).natAbs)) ?_
    simp only [hx,decide_true,decide_false,Bool.true_and,Bool.false_and] at hzb
    try rw [Bool.false_and]
    rw [hzb]
    repeat' first|refine Kf ?_|intro _|constructor
    refine Kw rfl (Zbj ht (z:=x ^ k) (by omega)) ?_
    repeat' first|refine Kf ?_|intro _|constructor
    exact Kv
theorem Za3 (ht:Tab w0) {s:List UInt8} {n:Int} (hs:s.length≤1000000000) (hn0:-9223372036854775808≤n) (hn1:n≤9223372036854775807) :
  CQ Tryz.prog w0 16 [.string ⟨s.toArray⟩,.int .i64 n] As (.tuple #[.string ⟨(rootW s n).1.toArray⟩,.int .i64 (rootW s n).2]):=by
 refine Zaa Tryz.func16 rfl Tryz.ntmps16 rfl ?_
 repeat' first|refine Kz ?_|intro _
 refine TL.call rfl rfl rfl (Zcu hs) ?_
 rintro _ _ ⟨p,cap,rfl,rfl⟩
 unfold rootW
 cases h1:readW s with
 | none =>
  repeat' first|refine Kz ?_|intro _
  exact Kv
 | some x =>
  simp only [Option.isSome_some,Option.getD_some]
  have l1:=Zar h1
  by_cases ho:n < 1∨12 < n∨x < 0
  ·rw [if_pos ho]
   by_cases hn:n < 1
   ·repeat' first|refine Kz ?_|intro _
    exact Kv
   ·by_cases hn12:12 < n
    ·repeat' first|refine Kz ?_|intro _
     exact Kv
    ·have hx:x < 0:=by omega
     repeat' first|refine Kz ?_|intro _
     exact Kv
  ·rw [if_neg ho]
   obtain ⟨k,rfl⟩:∃ k:Nat,n=(k:Int):=⟨n.toNat,by omega⟩
   rw [Int.toNat_natCast]
   have hr:rootN x.natAbs k≤x.natAbs:=Zh5 (k:=k) (by omega) (Zd3 (by omega))
   have hrl:=Zao hr
   have hz0:(false&&decide (rootN x.natAbs k≠0))=decide (((rootN x.natAbs k:Nat):Int) < 0):=by
    rw [Bool.false_and,eq_comm,decide_eq_false_iff_not];omega
   have hzn:rootN x.natAbs k=((rootN x.natAbs k:Nat):Int).natAbs:=(Int.natAbs_natCast _).symm
   repeat' first|refine Kz ?_|intro _
   refine TL.call rfl rfl rfl (Zp2 ht (x:=x.natAbs) (k:=k) (by omega) (by omega) (by omega)) ?_
   rintro _ _ ⟨p',cap',rfl,rfl⟩
   repeat' first|refine Kz ?_|intro _
   refine Kt rfl (Zfl (n:=rootN x.natAbs k)) ?_
   rw [hz0]
   generalize ((rootN x.natAbs k:Nat):Int)=z at hzn ⊢
   rw [hzn] at hrl ⊢
   repeat' first|refine Kz ?_|intro _
   refine Kt rfl (Zbj ht (z:=z) (by omega)) ?_
   repeat' first|refine Kz ?_|intro _
   exact Kv
instance:IfT Tryz.prog 55:=⟨_,Tryz.underlying55⟩
def ErrR (w:World):Prop:=∃ ev,w.cell? ⟨2,0,none⟩=some ev∧(ev=.nilIface∨∃ te pe,ev=.iface te pe)
theorem ErrR.keep {w:World} (he:ErrR w0) (h:St w0 w As):ErrR w:=by
 obtain ⟨ev,h1,h2⟩:=he
 refine ⟨ev,?_,h2⟩
 simp only [World.cell?] at h1 ⊢
 cases ho:w0.heap[2]? with
 | none=>rw [ho] at h1;cases h1
 | some o=>rw [St.old h ho];rw [ho] at h1;exact h1
theorem Zoh {s:List UInt8} {z:Int} (hr:readW s=some z) (h:-9223372036854775808≤z∧z≤9223372036854775807) (hs:s.length≤1000000000) :
  CallsS Tryz.prog w0 47 [.string ⟨s.toArray⟩,.int .i64 10,.int .i64 64] As fun u Bs=>u=.tuple #[.int .i64 z,.nilIface]∧Bs=As :=
 CallsS.mk fun w hst=>(Tryz.strconv_ParseInt_10_at64_ok ⟨s.toArray⟩ (by show s.toArray.size≤_;simp;omega) z (by rw [show (⟨s.toArray⟩:ByteArray).data.toList=s from rfl,Zfj hr,if_pos h]) w).mono fun en w' ⟨h1,h2⟩=>by
  refine ⟨_,As,h1,⟨rfl,rfl⟩,?_⟩
  rcases h2 with rfl|⟨t,rfl⟩
  ·exact hst
  ·exact hst.below (Lib.bytesWorld_below _ _ _)
theorem Zi0 (he:ErrR w0) {s:List UInt8} {z:Int} (hr:readW s=some z) (h:¬ (-9223372036854775808≤z∧z≤9223372036854775807)) (hs:s.length≤1000000000) :
  CallsS Tryz.prog w0 47 [.string ⟨s.toArray⟩,.int .i64 10,.int .i64 64] As fun u Bs=>(∃ n t p,u=.tuple #[.int .i64 n,.iface t p])∧Bs=As :=
 CallsS.mk fun w hst=>by
  obtain ⟨ev,h1,h2⟩:=he.keep hst
  refine (Tryz.strconv_ParseInt_10_at64_range ⟨s.toArray⟩ (by show s.toArray.size≤_;simp;omega) (by rw [show (⟨s.toArray⟩:ByteArray).data.toList=s from rfl,Zfj hr,if_neg h]) ev w h1 h2).mono fun en w' ⟨N,k1,_,_,k4⟩=>?_
  exact ⟨_,As,k1,⟨⟨_,_,_,rfl⟩,rfl⟩,hst.below k4⟩
theorem Zh6 (he:ErrR w0) {s:List UInt8} (hs:s.length≤1000000000):CQ Tryz.prog w0 20 [.string ⟨s.toArray⟩] As (.tuple #[.int .i64 (intW s).1,.int .i64 (intW s).2]):=by
 refine Zaa Tryz.func20 rfl Tryz.ntmps20 rfl ?_
 repeat' first|refine Kz ?_|intro _
 refine Kt rfl (Zas hs) ?_
 unfold intW checkW
 cases h1:readW s with
 | none =>
  simp only [Option.isSome_none,Bool.false_eq_true,if_false]
  repeat' first|refine Kz ?_|intro _
  exact Kv
 | some x =>
  simp only [Option.isSome_some,if_true]
  by_cases hx:-9223372036854775808≤x∧x≤9223372036854775807
  ·rw [if_pos hx]
   repeat' first|refine Kz ?_|intro _
   refine Kt rfl (Zoh h1 hx hs) ?_
   repeat' first|refine Kz ?_|intro _
   refine TL.f rfl rfl (Zlq rfl) ?_
   repeat' first|refine Kz ?_|intro _
   exact Kv
  ·rw [if_neg hx]
   repeat' first|refine Kz ?_|intro _
   refine TL.call rfl rfl rfl (Zi0 he h1 hx hs) ?_
   rintro _ _ ⟨⟨n,t,p,rfl⟩,rfl⟩
   repeat' first|refine Kz ?_|intro _
   refine TL.f rfl rfl (Zjy rfl) ?_
   repeat' first|refine Kz ?_|intro _
   exact Kv
end Go.Proofs.YtaipdafohfmkcaaGreatDoor
namespace Go.Sx
open Go
theorem Zjc {x y:Int} (hy:y≠0):(!decide (decide (x < 0)=decide (y < 0))&&decide ((x / y).natAbs≠0))=decide (x / y < 0):=by
 by_cases h:x < 0∧x.natAbs % y.natAbs≠0
 ·obtain ⟨e1,_⟩:=Zey hy h.1 h.2
  rw [e1,Bool.eq_iff_iff,decide_eq_true_eq]
  simp only [Bool.and_eq_true,Bool.not_eq_true',decide_eq_false_iff_not,decide_eq_true_eq,h.1]
  generalize x.natAbs / y.natAbs+1=Q
  by_cases h2:y < 0<;>simp [h2]<;>omega
 ·obtain ⟨e1,_⟩:=Zki hy h
  rw [e1,Bool.eq_iff_iff,decide_eq_true_eq]
  simp only [Bool.and_eq_true,Bool.not_eq_true',decide_eq_false_iff_not,decide_eq_true_eq]
  generalize x.natAbs / y.natAbs=Q
  by_cases h1:x < 0<;>by_cases h2:y < 0<;>simp [h1,h2]<;>omega
end Go.Sx
namespace Go.Proofs.YtaipdafohfmkcaaGreatDoor
open Go Go.Sx
variable {w0:World} {As:List Ent}
theorem Zcc (ht:Tab w0) {s t:List UInt8} (hs:s.length≤1000000000) (hl:t.length≤1000000000) :
  CQ Tryz.prog w0 13 [.string ⟨s.toArray⟩,.string ⟨t.toArray⟩] As (.tuple #[.string ⟨(divW s t).1.toArray⟩,.string ⟨(divW s t).2.1.toArray⟩,.int .i64 (divW s t).2.2]):=by
 refine Zaa Tryz.func13 rfl Tryz.ntmps13 rfl ?_
 repeat' first|refine Kz ?_|intro _
 refine TL.call rfl rfl rfl (Zek hs hl) ?_
 rintro _ _ ⟨p,cap,q,cap',rfl,rfl⟩
 unfold divW
 cases h1:readW s with
 | none =>
  simp only [Option.isSome_none,Bool.false_eq_true,false_and,if_false]
  repeat' first|refine Kz ?_|intro _
  exact Kv
 | some x =>
  cases h2:readW t with
  | none =>
   simp only [Option.isSome_none,Bool.false_eq_true,and_false,if_false]
   repeat' first|refine Kz ?_|intro _
   exact Kv
  | some y =>
   simp only [Option.isSome_some,and_self,if_true,Option.getD_some]
   have l1:=Zar h1
   have l2:=Zar h2
   repeat' first|refine Kz ?_|intro _
   rename_i b7 b8
   refine Kt rfl (Zce (n:=y.natAbs)) ?_
   by_cases hy:y=0
   ·have hy0:y.natAbs=0:=by omega
    rw [if_pos hy]
    repeat' first|refine Kz ?_|intro _
    exact Kv
   rw [if_neg hy]
   have hy0:¬ y.natAbs=0:=by omega
   have d1:=Zcv h1
   have d2:=Zcv h2
   have dz:=Zlg (x:=x) (y:=y) d1
   have dw:=Zk9 (x:=x) hy d2
   have hbit:=Zjc (x:=x) hy
   have hw0:=Int.emod_nonneg x hy
   have hlz:=Zao (Int.natAbs_ediv_le_natAbs x y)
   have hlw:=Zao (Nat.le_of_lt (Zgn (x:=x) hy))
   repeat' first|refine Kz ?_|intro _
   refine TL.call rfl rfl rfl (Zfs (a:=x.natAbs) (b:=y.natAbs) hy0 (by omega) (by omega)) ?_
   rintro _ _ ⟨p2,cap2,p3,cap3,rfl,rfl⟩
   iterate 7 (first|((show TL _ _ _ _ (_::_) _ _ _;first|refine Zjm ?_|refine Zjk ?_|(refine Zfv ?_;intro _)|(refine Zih ?_;first|rintro _ _ ⟨rfl,rfl⟩|rintro _ _ rfl)|refine Zdv ?_|refine Zcj ?_|refine Zjl ?_|fail))|(refine Stp.h ?_))
   refine Tri.cut (fun e' As'=>∃ p4 cap4 p5 cap5,e'=[(7,.pointer (some ⟨b7,0,none⟩)),(8,.pointer (some ⟨b8,0,none⟩)),(9,.slice p4 (mag (x / y).natAbs).length cap4),(10,.slice p5 (mag (x % y).natAbs).length cap5)]∧As'=.ft (rd (cN .u32) (.slice p4 (mag (x / y).natAbs).length cap4) (mag (x / y).natAbs))::.ft (rd (cN .u32) (.slice p5 (mag (x % y).natAbs).length cap5) (mag (x % y).natAbs))::.cl b8 [.slice q (mag y.natAbs).length cap',.bool (decide (y < 0))] 63::.cl b7 [.slice p (mag x.natAbs).length cap,.bool (decide (x < 0))] 63::As) ?_ ?_
   ·by_cases hr:x < 0∧x.natAbs % y.natAbs≠0
    ·obtain ⟨hx,hR⟩:=hr
     have hRl:=Nat.mod_lt x.natAbs (show 0 < y.natAbs by omega)
     obtain ⟨e1,e2⟩:=Zey hy hx hR
     have f1:x.natAbs / y.natAbs+1=(x / y).natAbs:=by
      rw [e1];split<;>simp only [Int.natAbs_neg,Int.natAbs_natCast]
     have f2:y.natAbs - x.natAbs % y.natAbs=(x % y).natAbs:=by rw [e2,Int.natAbs_natCast]
     have hm1:mag 1=[1]:=Zem (by omega) (by omega)
     have l3:=Zao (Nat.div_le_self x.natAbs y.natAbs)
     repeat' first|refine Kz ?_|intro _
     refine Ks rfl (Zce (v:=.slice p3 (mag (x.natAbs % y.natAbs)).length cap3) (n:=x.natAbs % y.natAbs)) ?_
     repeat' first|refine Kz ?_|intro _
     refine TL.ents (Zeg (cN .u32) (mag 1) (by rw [hm1];rfl) (by rw [hm1]) (by rw [hm1])) ?_
     refine TL.callv rfl rfl rfl rfl (Ziz (v:=.slice p2 (mag (x.natAbs / y.natAbs)).length cap2) (a:=x.natAbs / y.natAbs) (b:=1) (by omega) (by rw [hm1];simp)) ?_
     rintro _ _ ⟨p4,cap4,rfl,rfl⟩
     rw [f1]
     repeat' first|refine Kz ?_|intro _
     refine TL.callv rfl rfl rfl rfl (Zhb (o:=.slice p3 (mag (x.natAbs % y.natAbs)).length cap3) (a:=y.natAbs) (b:=x.natAbs % y.natAbs) (by omega) (by omega)) ?_
     rintro _ _ ⟨p5,cap5,rfl,rfl⟩
     rw [f2]
     repeat' first|refine Kz ?_|intro _
     exact Za4 _ _ ⟨p4,cap4,p5,cap5,rfl,rfl⟩ Zag Zab
    ·obtain ⟨e1,e2⟩:=Zki hy hr
     have f1:x.natAbs / y.natAbs=(x / y).natAbs:=by
      rw [e1];split<;>simp only [Int.natAbs_neg,Int.natAbs_natCast]
     have f2:x.natAbs % y.natAbs=(x % y).natAbs:=by rw [e2,Int.natAbs_natCast]
     by_cases hx:x < 0
     ·have hR:x.natAbs % y.natAbs=0:=by omega
      repeat' first|refine Kz ?_|intro _
      refine Ks rfl (Zce (v:=.slice p3 (mag (x.natAbs % y.natAbs)).length cap3) (n:=x.natAbs % y.natAbs)) ?_
      repeat' first|refine Kz ?_|intro _
      rw [f1,f2]
      exact Za4 _ _ ⟨p2,cap2,p3,cap3,rfl,rfl⟩ Zag Zab
     ·repeat' first|refine Kz ?_|intro _
      rw [f1,f2]
      exact Za4 _ _ ⟨p2,cap2,p3,cap3,rfl,rfl⟩ Zag Zab
   ·rintro _ _ ⟨p4,cap4,p5,cap5,rfl,rfl⟩
    have hwb:(false&&decide ((x % y).natAbs≠0))=decide (x % y < 0):=by rw [Bool.false_and,eq_comm,decide_eq_false_iff_not];omega
    repeat' first|refine Kz ?_|intro _
    refine Kt rfl (Zfl (n:=(x / y).natAbs)) ?_
    rw [hbit]
    repeat' first|refine Kz ?_|intro _
    refine Kt rfl (Zbj ht (z:=x / y) (by omega)) ?_
    rw [Zi2 dz]
    repeat' first|refine Kz ?_|intro _
    refine Kt rfl (Zfl (n:=(x % y).natAbs)) ?_
    rw [hwb]
    repeat' first|refine Kz ?_|intro _
    refine Kt rfl (Zbj ht (z:=x % y) (by omega)) ?_
    rw [Zi2 dw]
    repeat' first|refine Kz ?_|intro _
    exact Kv
end Go.Proofs.YtaipdafohfmkcaaGreatDoor
